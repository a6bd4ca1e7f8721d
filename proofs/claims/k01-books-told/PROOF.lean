import PyProof.Rows.All
import Wide.All
import OpenK.AllK
import Wide.FinOn
import HandS.ForMost
import HandS.ForExc
import HandS.Walk
import HandS.Lambda
import HandS.CallSlots
import HandS.TupAny
import HandS.Deep
import HandS.IsInst
import HandS.Flow
import HandS.SortInts
import HandS.Zip
import HandS.TupLe
import HandS.SortOrd
import HandS.NamedTupSort
import HandS.Style
import HandS.Small
import HandS.ExcBuiltin
import HandS.SetFor
import HandS.Strs
import KE.SortKeyHeap
import KE.SortData
import HandS.Conv
import HandS.EndTab
import KE.DataAny
import HandS.DictComp
import HandS.TupMul
import HandS.TupSets
import HandS.SetKeys
import PySem.Challenge.RW_meetloft_k01_books_told
set_option Elab.async false
set_option linter.all false
set_option maxRecDepth 100001
set_option maxHeartbeats 4000001
/-! The layer of plain data: values as trees, the machine's heap hidden. -/
namespace DL
open L2 PyProof.Rows PySem PySem.Spec

/-- the tables of code objects that lambdas are noted in, with the lambdas' names -/
class TabT where
  T : List (Addr × Str)
  /-- what was there ahead of all -/
  X : Addr → Prop
/-- plain data; `ref n` is the n-th object of the store -/
inductive D where
  | non | bl (b : Bool) | int (i : Int) | str (x : Str)
  | tup (xs : List D) | lst (xs : List D) | dic (t : Bool) (ks vs : List D) | ref (n : Nat)
  deriving Inhabited

/-- what a changeable object holds -/
inductive MO where
  | lst (xs : List D) | dic (t : Bool) (ks vs : List D) | obj (C : Nat) (fs : List (Str × D))
  deriving Inhabited
def MO.toD : MO → D
  | .lst xs => .lst xs
  | .dic t ks vs => .dic t ks vs
  | .obj _ _ => .non
inductive SV where
  | val (d : D) | own (m : MO)
abbrev EV := List (Option SV)
abbrev Sto := List MO

/-- a state: Z the lists that nobody changes any more, ρ where the store's objects lie -/
structure Ws where
  Z : Addr → Prop
  ρ : List Addr
  ε : EV
  S : Sto
  σ : L2.St
  H : Hp

def keyD : Key → D
  | .inl i => .int i
  | .inr x => .str x

def FzL (K : PySem.W.Frag) (Z : Addr → Prop) (H : Hp) (a : Addr) (xs : List V) : Prop :=
  (Z a ∧ H a = some (.lst xs)) ∨ (xs.length ≤ sizeLine ∧ ∃ o, H a = some (.frz o (.lst xs))) ∨
    ∃ (o : Obj) (its : Array Value) (n : Nat), K.lookup a = some o ∧ o.cls = .type "list" ∧ o.dict = none ∧ o.data = .seq its n ∧ its.size ≤ sizeLine ∧ Vals xs its.toList
theorem FzL.sq {K : PySem.W.Frag} {Z : Addr → Prop} {H : Hp} {a : Addr} {xs : List V} (h : FzL K Z H a xs) : SqL K H a xs := by
  rcases h with ⟨_, h⟩ | ⟨_, h⟩ | h
  · exact .inl (.inl h)
  · exact .inl (.inr h)
  · exact .inr h
/-- a tuple that stands still -/
def TpT (_ : PySem.W.Frag) (H : Hp) (a : Addr) (xs : List V) : Prop := H a = some (.tup xs)
theorem TpT.sq {K : PySem.W.Frag} {H : Hp} {a : Addr} {xs : List V} (h : TpT K H a xs) : SqT K H a xs := .inl (.inl h)

/-- a dict as it lies: keys ints and texts, or tuples of such -/
def DicAt (H : Hp) (a : Addr) (t : Bool) (ks : List D) (ws : List V) : Prop :=
  (t = false ∧ ∃ kvs : List (Key × V), H a = some (.dK kvs) ∧ ks = kvs.map (fun p => keyD p.1) ∧ ws = kvs.map (·.2)) ∨
  (t = true ∧ ∃ kvs : List (List Key × V), H a = some (.dT kvs) ∧ ks = kvs.map (fun p => D.tup (p.1.map keyD)) ∧ ws = kvs.map (·.2))

mutual
def Rep (K : PySem.W.Frag) (Z : Addr → Prop) (ρ : List Addr) (H : Hp) : D → V → Prop
  | .non, v => v = .non
  | .bl b, v => v = .bl b
  | .int i, v => v = .int i
  | .str x, v => v = .str x
  | .tup ds, v => ∃ a vs, v = .ref a ∧ TpT K H a vs ∧ Reps K Z ρ H ds vs
  | .lst ds, v => ∃ a vs, v = .ref a ∧ FzL K Z H a vs ∧ Reps K Z ρ H ds vs
  | .dic t ks ds, v => ∃ a vs, v = .ref a ∧ Z a ∧ DicAt H a t ks vs ∧ Reps K Z ρ H ds vs
  | .ref n, v => ∃ a, v = .ref a ∧ ρ[n]? = some a
def Reps (K : PySem.W.Frag) (Z : Addr → Prop) (ρ : List Addr) (H : Hp) : List D → List V → Prop
  | [], vs => vs = []
  | d :: ds, vs => ∃ v ws, vs = v :: ws ∧ Rep K Z ρ H d v ∧ Reps K Z ρ H ds ws
end
abbrev Ws.Rep (w : Ws) (K : PySem.W.Frag) (d : D) (v : V) : Prop := DL.Rep K w.Z w.ρ w.H d v
abbrev Ws.Reps (w : Ws) (K : PySem.W.Frag) (ds : List D) (vs : List V) : Prop := DL.Reps K w.Z w.ρ w.H ds vs

/-- the fields of an instance -/
def FldAt (K : PySem.W.Frag) (Z : Addr → Prop) (ρ : List Addr) (H : Hp) : List (Str × D) → List (Str × V) → Prop
  | [], gs => gs = []
  | (f, d) :: fs, gs => ∃ v hs, gs = (f, v) :: hs ∧ Rep K Z ρ H d v ∧ FldAt K Z ρ H fs hs

def MOk (K : PySem.W.Frag) (Z : Addr → Prop) (ρ : List Addr) (H : Hp) (p : Addr) : MO → Prop
  | .lst ds => ∃ vs, H p = some (.lst vs) ∧ Reps K Z ρ H ds vs
  | .dic t ks ds => ∃ vs, DicAt H p t ks vs ∧ Reps K Z ρ H ds vs
  | .obj C fs => ∃ dx gs, H p = some (.ins C dx gs) ∧ FldAt K Z ρ H fs gs
abbrev Ws.MOk (w : Ws) (K : PySem.W.Frag) (p : Addr) (m : MO) : Prop := DL.MOk K w.Z w.ρ w.H p m

/-- the addresses that slots own -/
def Own (ε : EV) (σ : L2.St) (p : Addr) : Prop := ∃ (i : Nat) (m : MO), ε[i]? = some (some (.own m)) ∧ σ[i]? = some (some (.ref p))

/-- what may never change at a tracked address -/
def Fixed : HO → Prop
  | .lst _ | .dK _ | .dT _ | .ins _ _ _ | .tbl _ => False
  | _ => True
/-- no table -/
def NT : HO → Prop
  | .tbl _ => False
  | _ => True
theorem Fixed.nt {o : HO} (h : Fixed o) : NT o := by cases o <;> first | trivial | exact h
/-- what is said of data stays true -/
structure Le (w w' : Ws) : Prop where
  z : ∀ a, w.Z a → w'.Z a
  pre : ∃ m, w'.ρ = w.ρ ++ m
  fix : ∀ b o, w.H b = some o → (w.Z b ∨ Fixed o) → w'.H b = some o
structure Mono (w w' : Ws) : Prop where
  z : ∀ a, w.Z a → w'.Z a
  pre : ∃ m, w'.ρ = w.ρ ++ m
  keep : ∀ b o, w.H b = some o → b ∉ w.ρ → ¬ Own w.ε w.σ b → NT o → w'.H b = some o
  zold : ∀ a, w'.Z a → w.Z a ∨ w.H a = none ∨ Own w.ε w.σ a
  own : ∀ p, Own w'.ε w'.σ p → Own w.ε w.σ p ∨ w.H p = none
  rho : ∀ p ∈ w'.ρ, p ∈ w.ρ ∨ w.H p = none
  dom : ∀ b, w'.H b = none → w.H b = none

theorem Mono.refl (w : Ws) : Mono w w := ⟨fun _ h => h, ⟨[], by simp⟩, fun _ _ h _ _ _ => h, fun _ h => .inl h, fun _ h => .inl h, fun _ h => .inl h, fun _ h => h⟩
theorem Mono.trans {a b c : Ws} (x : Mono a b) (y : Mono b c) : Mono a c := by
  refine ⟨fun p h => y.z p (x.z p h), ?_, fun p o h h1 h2 nt => ?_, fun p h => ?_, fun p h => ?_, fun p h => ?_, fun p h => x.dom p (y.dom p h)⟩
  · obtain ⟨m, e⟩ := x.pre
    obtain ⟨n, f⟩ := y.pre
    exact ⟨m ++ n, by rw [f, e, List.append_assoc]⟩
  · refine y.keep p o (x.keep p o h h1 h2 nt) (fun hm => ?_) (fun hm => ?_) nt
    · rcases x.rho p hm with q | q
      · exact h1 q
      · rw [h] at q; cases q
    · rcases x.own p hm with q | q
      · exact h2 q
      · rw [h] at q; cases q
  · rcases y.zold p h with h | h | h
    · exact x.zold p h
    · exact .inr (.inl (x.dom p h))
    · rcases x.own p h with h | h
      · exact .inr (.inr h)
      · exact .inr (.inl h)
  · rcases y.own p h with h | h
    · exact x.own p h
    · exact .inr (x.dom p h)
  · rcases y.rho p h with h | h
    · exact x.rho p h
    · exact .inr (x.dom p h)

structure Rel (K : PySem.W.Frag) (w : Ws) : Prop where
  len : w.ε.length = w.σ.length
  val : ∀ (i : Nat) (d : D), w.ε[i]? = some (some (.val d)) → ∃ v, w.σ[i]? = some (some v) ∧ w.Rep K d v
  own : ∀ (i : Nat) (m : MO), w.ε[i]? = some (some (.own m)) → ∃ p, w.σ[i]? = some (some (.ref p)) ∧ w.MOk K p m ∧ p ∉ w.ρ ∧ ¬ w.Z p
  apart : ∀ (i j : Nat) (m n : MO) (p : Addr), w.ε[i]? = some (some (.own m)) → w.ε[j]? = some (some (.own n)) → w.σ[i]? = some (some (.ref p)) → w.σ[j]? = some (some (.ref p)) → i = j
  slen : w.S.length = w.ρ.length
  sto : ∀ (n : Nat) (m : MO) (p : Addr), w.S[n]? = some m → w.ρ[n]? = some p → w.MOk K p m
  nd : w.ρ.Nodup
  zfree : ∀ a, w.Z a → a ∉ w.ρ
  zin : ∀ a, w.Z a → ∃ o, w.H a = some o ∧ NT o

theorem MOk.mu {K : PySem.W.Frag} {Z : Addr → Prop} {ρ : List Addr} {H : Hp} {p : Addr} {m : MO} (h : MOk K Z ρ H p m) : ∃ o, H p = some o ∧ ¬ Fixed o := by
  cases m with
  | lst ds => obtain ⟨vs, e, _⟩ := h; exact ⟨_, e, fun z => z⟩
  | dic tk ks ds =>
    obtain ⟨vs, e | e, _⟩ := h
    · obtain ⟨_, kvs, e, _⟩ := e; exact ⟨_, e, fun z => z⟩
    · obtain ⟨_, kvs, e, _⟩ := e; exact ⟨_, e, fun z => z⟩
  | obj C fs => obtain ⟨dx, gs, e, _⟩ := h; exact ⟨_, e, fun z => z⟩
theorem MOk.mt {K : PySem.W.Frag} {Z : Addr → Prop} {ρ : List Addr} {H : Hp} {p : Addr} {m : MO} (h : MOk K Z ρ H p m) : ∃ o, H p = some o ∧ NT o := by
  cases m with
  | lst ds => obtain ⟨vs, e, _⟩ := h; exact ⟨_, e, trivial⟩
  | dic tk ks ds =>
    obtain ⟨vs, e | e, _⟩ := h
    · obtain ⟨_, kvs, e, _⟩ := e; exact ⟨_, e, trivial⟩
    · obtain ⟨_, kvs, e, _⟩ := e; exact ⟨_, e, trivial⟩
  | obj C fs => obtain ⟨dx, gs, e, _⟩ := h; exact ⟨_, e, trivial⟩
section
variable {K : PySem.W.Frag} {w w' : Ws}
theorem Rel.ownMu (r : Rel K w) {p : Addr} (h : Own w.ε w.σ p) : ∃ o, w.H p = some o ∧ ¬ Fixed o := by
  obtain ⟨i, m, e, s⟩ := h
  obtain ⟨q, s', h, _⟩ := r.own i m e
  rw [s] at s'; cases s'
  exact h.mu
theorem Rel.rhoMu (r : Rel K w) {p : Addr} (h : p ∈ w.ρ) : ∃ o, w.H p = some o ∧ ¬ Fixed o := by
  obtain ⟨n, hn, e⟩ := List.getElem_of_mem h
  have hs : n < w.S.length := by rw [r.slen]; exact hn
  exact (r.sto n w.S[n] p (List.getElem?_eq_getElem hs) (by rw [List.getElem?_eq_getElem hn, e])).mu
theorem Rel.ownZ (r : Rel K w) {p : Addr} (h : Own w.ε w.σ p) : ¬ w.Z p := by
  obtain ⟨i, m, e, s⟩ := h
  obtain ⟨q, s', _, _, h⟩ := r.own i m e
  rw [s] at s'; cases s'
  exact h
theorem Rel.ownRho (r : Rel K w) {p : Addr} (h : Own w.ε w.σ p) : p ∉ w.ρ := by
  obtain ⟨i, m, e, s⟩ := h
  obtain ⟨q, s', _, h, _⟩ := r.own i m e
  rw [s] at s'; cases s'
  exact h
/-- what does not change is kept -/
theorem Mono.le (m : Mono w w') (r : Rel K w) : Le w w' := by
  refine ⟨m.z, m.pre, fun b o h f => ?_⟩
  rcases f with f | f
  · obtain ⟨u, e, nt⟩ := r.zin b f
    rw [h] at e
    cases e
    exact m.keep b o h (r.zfree b f) (fun q => r.ownZ q f) nt
  · refine m.keep b o h (fun q => ?_) (fun q => ?_) f.nt
    · obtain ⟨u, e, n⟩ := r.rhoMu q
      rw [h] at e; cases e; exact n f
    · obtain ⟨u, e, n⟩ := r.ownMu q
      rw [h] at e; cases e; exact n f
theorem Le.trans {a b c : Ws} (x : Le a b) (y : Le b c) : Le a c := by
  refine ⟨fun p h => y.z p (x.z p h), ?_, fun p o h f => y.fix p o (x.fix p o h f) (f.imp (x.z p) id)⟩
  obtain ⟨m, e⟩ := x.pre
  obtain ⟨n, f⟩ := y.pre
  exact ⟨m ++ n, by rw [f, e, List.append_assoc]⟩
theorem Le.sqT (m : Le w w') {a : Addr} {xs : List V} (h : TpT K w.H a xs) : TpT K w'.H a xs := m.fix _ _ h (.inr trivial)
theorem Le.fzL (m : Le w w') {a : Addr} {xs : List V} (h : FzL K w.Z w.H a xs) : FzL K w'.Z w'.H a xs := by
  rcases h with ⟨z, h⟩ | ⟨l, o, h⟩ | h
  · exact .inl ⟨m.z a z, m.fix _ _ h (.inl z)⟩
  · exact .inr (.inl ⟨l, o, m.fix _ _ h (.inr trivial)⟩)
  · exact .inr (.inr h)
theorem Le.dicZ (m : Le w w') {a : Addr} {t : Bool} {ks : List D} {ws : List V} (z : w.Z a) (h : DicAt w.H a t ks ws) : DicAt w'.H a t ks ws := by
  rcases h with ⟨et, kvs, h, e⟩ | ⟨et, kvs, h, e⟩
  · exact .inl ⟨et, kvs, m.fix _ _ h (.inl z), e⟩
  · exact .inr ⟨et, kvs, m.fix _ _ h (.inl z), e⟩
mutual
theorem Rep.mono (m : Le w w') : ∀ (d : D) (v : V), w.Rep K d v → w'.Rep K d v
  | .non, _, h => by unfold Ws.Rep at *; simp only [DL.Rep] at *; exact h
  | .bl _, _, h => by unfold Ws.Rep at *; simp only [DL.Rep] at *; exact h
  | .int _, _, h => by unfold Ws.Rep at *; simp only [DL.Rep] at *; exact h
  | .str _, _, h => by unfold Ws.Rep at *; simp only [DL.Rep] at *; exact h
  | .tup ds, _, h => by
    unfold Ws.Rep at *; simp only [DL.Rep] at *
    obtain ⟨a, vs, e, hs, ht⟩ := h
    exact ⟨a, vs, e, m.sqT hs, Reps.mono m ds vs ht⟩
  | .lst ds, _, h => by
    unfold Ws.Rep at *; simp only [DL.Rep] at *
    obtain ⟨a, vs, e, hs, ht⟩ := h
    exact ⟨a, vs, e, m.fzL hs, Reps.mono m ds vs ht⟩
  | .dic t ks ds, _, h => by
    unfold Ws.Rep at *; simp only [DL.Rep] at *
    obtain ⟨a, vs, e, hz, hs, ht⟩ := h
    exact ⟨a, vs, e, m.z a hz, m.dicZ hz hs, Reps.mono m ds vs ht⟩
  | .ref n, _, h => by
    unfold Ws.Rep at *; simp only [DL.Rep] at *
    obtain ⟨a, e, q⟩ := h
    obtain ⟨l, f⟩ := m.pre
    refine ⟨a, e, ?_⟩
    rw [f, List.getElem?_append_left (List.getElem?_eq_some_iff.mp q).1]
    exact q
theorem Reps.mono (m : Le w w') : ∀ (ds : List D) (vs : List V), w.Reps K ds vs → w'.Reps K ds vs
  | [], _, h => by unfold Ws.Reps at *; simp only [DL.Reps] at *; exact h
  | d :: ds, _, h => by
    unfold Ws.Reps at *; simp only [DL.Reps] at *
    obtain ⟨v, ws, e, h1, h2⟩ := h
    exact ⟨v, ws, e, Rep.mono m d v h1, Reps.mono m ds ws h2⟩
end
theorem FldAt.mono (m : Le w w') : ∀ (fs : List (Str × D)) (gs : List (Str × V)), FldAt K w.Z w.ρ w.H fs gs → FldAt K w'.Z w'.ρ w'.H fs gs
  | [], _, h => h
  | (f, d) :: fs, _, h => by
    obtain ⟨v, hs, e, h1, h2⟩ := h
    exact ⟨v, hs, e, Rep.mono m d v h1, FldAt.mono m fs hs h2⟩
/-- an object whose own place is kept -/
theorem MOk.mono (m : Le w w') {p : Addr} (hp : ∀ o, w.H p = some o → w'.H p = some o) : ∀ {x : MO}, w.MOk K p x → w'.MOk K p x
  | .lst ds, h => by
    obtain ⟨vs, e, q⟩ := h
    exact ⟨vs, hp _ e, Reps.mono m ds vs q⟩
  | .dic t ks ds, h => by
    obtain ⟨vs, e | e, q⟩ := h
    · obtain ⟨et, kvs, e, f⟩ := e
      exact ⟨vs, .inl ⟨et, kvs, hp _ e, f⟩, Reps.mono m ds vs q⟩
    · obtain ⟨et, kvs, e, f⟩ := e
      exact ⟨vs, .inr ⟨et, kvs, hp _ e, f⟩, Reps.mono m ds vs q⟩
  | .obj C fs, h => by
    obtain ⟨dx, gs, e, q⟩ := h
    exact ⟨dx, gs, hp _ e, FldAt.mono m fs gs q⟩
end
end DL
namespace DL
open L2 PyProof.Rows PySem PySem.Spec

/-- what an evaluation comes to -/
inductive R (α : Type) where
  | ok (a : α) (ε : EV) (S : Sto) | ex (c : Nat) (ε : EV) (S : Sto) | stuck
abbrev ES (α : Type) := EV → Sto → R α
def R.bind {α β : Type} (r : R α) (k : α → ES β) : R β := match r with
  | .ok a ε S => k a ε S
  | .ex c ε S => .ex c ε S
  | .stuck => .stuck
def R.opt {α : Type} (o : Option α) (ε : EV) (S : Sto) : R α := match o with
  | some a => .ok a ε S
  | none => .stuck

/-- what is wished of exceptions; where the code was entered -/
structure Cfg where
  W : WX
  exc : Nat → Value
  w0 : Ws
def SzW : HO → Prop
  | .lst xs | .tup xs => xs.length ≤ sizeLine
  | .dK kvs => kvs.length ≤ sizeLine
  | .dT kvs => kvs.length ≤ sizeLine
  | .ins _ _ fs => fs.length ≤ 1000
  | _ => True
def SzOk : HO → Prop
  | .lst xs | .tup xs => xs.length ≤ sizeLine
  | .dK kvs => kvs.length ≤ sizeLine
  | .dT kvs => kvs.length ≤ sizeLine
  | .ins _ _ fs => fs.length ≤ 1000
  | .tbl _ => False
  | _ => True
theorem SzOk.w {o : HO} (h : SzOk o) : SzW o := by cases o <;> first | trivial | exact h
theorem SzOk.nt {o : HO} (h : SzOk o) : NT o := by cases o <;> first | trivial | exact h
variable [TabT]
/-- lengths, and the tables -/
structure SzH (H : Hp) : Prop where
  sz : ∀ a o, H a = some o → SzW o
  new : ∀ a o, H a = some o → ¬ TabT.X a → NT o
  old : ∀ a, TabT.X a → ∃ o, H a = some o
  tb : LamX.Tabs TabT.T H
instance {H : Hp} : CoeFun (SzH H) fun _ => ∀ a o, H a = some o → SzW o := ⟨SzH.sz⟩
theorem SzH.fresh {H : Hp} (h : SzH H) {a : Addr} (e : H a = none) : ¬ TabT.X a := fun m => by
  obtain ⟨ps, e2⟩ := h.old a m
  rw [e] at e2
  cases e2
theorem SzH.nt {H : Hp} (h : SzH H) {a : Addr} {o : HO} (e : H a = some o) (m : ¬ TabT.X a) : NT o := h.new a o e m
/-- one place is written anew, that holds no table and no code object -/
theorem SzH.put {H : Hp} {p : Addr} {o : HO} (h : SzH H) (so : SzOk o) (hp : H p = none ∨ ∃ u, H p = some u ∧ ¬ Fixed u ∧ NT u) : SzH (upd H p o) := by
  refine ⟨fun a u e => ?_, fun a u e m => ?_, fun a m => ?_, fun q hq => ?_⟩
  · by_cases z : a = p
    · subst z; rw [upd_same] at e; cases e; exact so.w
    · rw [upd_ne z] at e; exact h.sz a u e
  · by_cases z : a = p
    · subst z; rw [upd_same] at e; cases e; exact so.nt
    · rw [upd_ne z] at e; exact h.new a u e m
  · by_cases z : a = p
    · subst z; exact ⟨_, upd_same⟩
    · rw [upd_ne z]; exact h.old a m
  · have ne : ∀ b u, H b = some u → (Fixed u ∨ ¬ NT u) → b ≠ p := fun b u e f z => by
      subst z
      rcases hp with k | ⟨v, k, k1, k2⟩
      · rw [e] at k; cases k
      · rw [e] at k; cases k
        exact f.elim k1 fun z => z k2
    obtain ⟨ps, h1, h2, h3⟩ := h.tb q hq
    refine ⟨ps, by rw [upd_ne (ne _ _ h1 (.inr fun z => z))]; exact h1, h2, fun pos cv hc => ?_⟩
    obtain ⟨c, e1, e2⟩ := h3 pos cv hc
    exact ⟨c, e1, by rw [upd_ne (ne _ _ e2 (.inl trivial))]; exact e2⟩
structure RelC (K : PySem.W.Frag) (C : Cfg) (w : Ws) : Prop where
  r : Rel K w
  m : Mono C.w0 w
  sz : SzH w.H
theorem RelC.fzLen {K : PySem.W.Frag} {C : Cfg} {w : Ws} (r : RelC K C w) {a : Addr} {xs : List V} (h : FzL K w.Z w.H a xs) : xs.length ≤ sizeLine := by
  rcases h with ⟨_, h⟩ | ⟨l, _⟩ | ⟨o, its, n, _, _, _, _, hs, hv⟩
  · exact r.sz a _ h
  · exact l
  · rw [hv.length, Array.length_toList]; exact hs
theorem RelC.tpLen {K : PySem.W.Frag} {C : Cfg} {w : Ws} (r : RelC K C w) {a : Addr} {xs : List V} (h : TpT K w.H a xs) : xs.length ≤ sizeLine := r.sz a _ h
def POST {α : Type} (K : PySem.W.Frag) (C : Cfg) (w : Ws) (r : R α) (P : α → Ws → Prop) : Prop := match r with
  | .ok a ε S => ∀ w' : Ws, w'.ε = ε → w'.S = S → w'.σ = w.σ → Mono w w' → RelC K C w' → P a w'
  | .ex c ε S => ∀ w' : Ws, w'.ε = ε → w'.S = S → w'.σ = w.σ → Mono w w' → RelC K C w' → C.W (C.exc c) none w.σ w'.H
  | .stuck => False
section
variable {K : PySem.W.Frag} {C : Cfg} {w w' : Ws} {α β : Type}
theorem POST.lift {r : R α} {P : α → Ws → Prop} (m : Mono w w') (e : w'.σ = w.σ) (h : POST K C w r P) : POST K C w' r P := by
  cases r with
  | ok a ε S => exact fun w2 e1 e2 e3 m2 r2 => h w2 e1 e2 (e3.trans e) (m.trans m2) r2
  | ex c ε S =>
    intro w2 e1 e2 e3 m2 r2
    have := h w2 e1 e2 (e3.trans e) (m.trans m2) r2
    rw [e]; exact this
  | stuck => exact h
theorem POST.bind {r : R α} {k : α → ES β} {P : β → Ws → Prop} (h : POST K C w (r.bind k) P) :
    POST K C w r fun a w' => w'.σ = w.σ ∧ Mono w w' ∧ RelC K C w' ∧ POST K C w' (k a w'.ε w'.S) P := by
  cases r with
  | ok a ε S =>
    intro w' e1 e2 e3 m r
    have h' : POST K C w (k a ε S) P := h
    refine ⟨e3, m, r, ?_⟩
    rw [e1, e2]
    exact h'.lift m e3
  | ex c ε S => exact h
  | stuck => exact h
theorem POST.mono {r : R α} {P P' : α → Ws → Prop} (h : POST K C w r P) (i : ∀ a w', w'.σ = w.σ → Mono w w' → RelC K C w' → P a w' → P' a w') : POST K C w r P' := by
  cases r with
  | ok a ε S => exact fun w' e1 e2 e3 m r => i a w' e3 m r (h w' e1 e2 e3 m r)
  | ex c ε S => exact h
  | stuck => exact h
theorem POST.now {a : α} {P : α → Ws → Prop} (r : RelC K C w) (h : POST K C w (.ok a w.ε w.S) P) : P a w := h w rfl rfl rfl (Mono.refl w) r
theorem POST.at {a : α} {ε : EV} {S : Sto} {P : α → Ws → Prop} (h : POST K C w (.ok a ε S) P) (m : Mono w w') (r : RelC K C w') (e1 : w'.ε = ε) (e2 : w'.S = S) (e3 : w'.σ = w.σ) : P a w' := h w' e1 e2 e3 m r
theorem POST.opt {o : Option α} {P : α → Ws → Prop} (h : POST K C w (R.opt o w.ε w.S) P) : ∃ a, o = some a ∧ POST K C w (.ok a w.ε w.S) P := by
  cases o with
  | none => exact False.elim h
  | some a => exact ⟨a, rfl, h⟩
end

/-! ### the heap's steps -/
section
variable {K : PySem.W.Frag} {C : Cfg} {w : Ws} {p : Addr} {o : HO}
abbrev Ws.lay (w : Ws) (p : Addr) (o : HO) : Ws := { w with H := upd w.H p o }
abbrev Ws.frz (w : Ws) (p : Addr) : Ws := { w with Z := fun a => w.Z a ∨ a = p }
theorem Mono.lay (hp : w.H p = none) : Mono w (w.lay p o) := by
  refine ⟨fun _ h => h, ⟨[], by simp⟩, fun b u h _ _ _ => ?_, fun _ h => .inl h, fun _ h => .inl h, fun _ h => .inl h, fun b h => ?_⟩
  · show upd w.H p o b = _
    rw [upd_ne (ne_of_none h hp)]; exact h
  · have h : upd w.H p o b = none := h
    by_cases e : b = p
    · rw [e]; exact hp
    · rw [upd_ne e] at h; exact h
/-- from a state to one where all is as it was -/
theorem Rel.step {w' : Ws} (r : Rel K w) (m : Le w w') (hε : w'.ε = w.ε) (hS : w'.S = w.S) (hσ : w'.σ = w.σ) (hρ : w'.ρ = w.ρ)
    (hz : ∀ a, w'.Z a → w.Z a ∨ (a ∉ w.ρ ∧ ¬ Own w.ε w.σ a ∧ ∃ o, w'.H a = some o ∧ NT o))
    (hk : ∀ a o, (a ∈ w.ρ ∨ Own w.ε w.σ a) → w.H a = some o → w'.H a = some o) : Rel K w' := by
  have zz : ∀ a, w'.Z a → a ∉ w.ρ ∧ ¬ Own w.ε w.σ a := fun a h => (hz a h).elim (fun z => ⟨r.zfree a z, fun q => r.ownZ q z⟩) fun z => ⟨z.1, z.2.1⟩
  refine ⟨by rw [hε, hσ]; exact r.len, fun i d e => ?_, fun i x e => ?_, fun i j x y q => by rw [hε, hσ]; exact r.apart i j x y q, by rw [hS, hρ]; exact r.slen, fun n x q e1 e2 => ?_, by rw [hρ]; exact r.nd, fun a h => by rw [hρ]; exact (zz a h).1, fun a h => ?_⟩
  · rw [hε] at e
    obtain ⟨v, e1, e2⟩ := r.val i d e
    exact ⟨v, by rw [hσ]; exact e1, Rep.mono m d v e2⟩
  · rw [hε] at e
    obtain ⟨q, e1, e2, e3, e4⟩ := r.own i x e
    have oq : Own w.ε w.σ q := ⟨i, x, e, e1⟩
    exact ⟨q, by rw [hσ]; exact e1, MOk.mono m (fun o => hk q o (.inr oq)) e2, by rw [hρ]; exact e3, fun z => (zz q z).2 oq⟩
  · rw [hS] at e1
    rw [hρ] at e2
    exact MOk.mono m (fun o => hk q o (.inl (List.mem_of_getElem? e2))) (r.sto n x q e1 e2)
  · rcases hz a h with z | ⟨_, _, z⟩
    · obtain ⟨u, e, nt⟩ := r.zin a z
      exact ⟨u, m.fix _ _ e (.inl z), nt⟩
    · exact z
theorem RelC.lay (r : RelC K C w) (hp : w.H p = none) (so : SzOk o) : RelC K C (w.lay p o) := by
  refine ⟨r.r.step ((Mono.lay hp).le r.r) rfl rfl rfl rfl (fun a h => .inl h) (fun a u _ h => ?_), r.m.trans (Mono.lay hp), r.sz.put so (.inl hp)⟩
  show upd w.H p o a = _
  rw [upd_ne (ne_of_none h hp)]; exact h
/-- new, and held by nobody -/
structure Lone (w : Ws) (p : Addr) : Prop where
  z : ¬ w.Z p
  ρ : p ∉ w.ρ
  own : ¬ Own w.ε w.σ p
theorem Lone.of (r : RelC K C w) (hp : w.H p = none) : Lone (w.lay p o) p := by
  refine ⟨fun z => ?_, fun z => ?_, fun z => ?_⟩
  · obtain ⟨u, e, _⟩ := r.r.zin p z
    rw [hp] at e; cases e
  · obtain ⟨u, e, _⟩ := r.r.rhoMu z
    rw [hp] at e; cases e
  · obtain ⟨u, e, _⟩ := r.r.ownMu z
    rw [hp] at e; cases e
theorem Le.frz : Le w (w.frz p) := ⟨fun _ h => .inl h, ⟨[], by simp⟩, fun _ _ h _ => h⟩
theorem Mono.frz {w0 : Ws} (m : Mono w0 w) (h : w0.H p = none) : Mono w0 (w.frz p) := ⟨fun a z => .inl (m.z a z), m.pre, m.keep, fun a z => z.elim (m.zold a) fun e => .inr (.inl (by rw [e]; exact h)), m.own, m.rho, m.dom⟩
theorem RelC.frz {w0 : Ws} (r0 : RelC K C w0) (m : Mono w0 w) (h0 : w0.H p = none) (r : RelC K C w) (l : Lone w p) (hp : ∃ o, w.H p = some o) : RelC K C (w.frz p) :=
  ⟨r.r.step Le.frz rfl rfl rfl rfl (fun a h => h.elim .inl fun e => by subst e; exact .inr ⟨l.ρ, l.own, let ⟨o, z⟩ := hp; ⟨o, z, r.sz.nt z (r0.sz.fresh h0)⟩⟩) (fun _ _ _ h => h), r0.m.trans (Mono.frz m h0), r.sz⟩
/-- a lone object is frozen -/
theorem MOk.frz {w0 : Ws} (r0 : RelC K C w0) (m0 : Mono w0 w) (h0 : w0.H p = none) (r : RelC K C w) (l : Lone w p) {m : MO} (h : w.MOk K p m) (no : ∀ C fs, m ≠ .obj C fs) : RelC K C (w.frz p) ∧ (w.frz p).Rep K m.toD (.ref p) := by
  have hp : ∃ o, w.H p = some o := let ⟨o, e, _⟩ := h.mu; ⟨o, e⟩
  have r' := RelC.frz r0 m0 h0 r l hp
  refine ⟨r', ?_⟩
  cases m with
  | lst ds =>
    obtain ⟨vs, e, q⟩ := h
    show DL.Rep K _ _ _ (.lst ds) _
    simp only [DL.Rep]
    exact ⟨p, vs, rfl, .inl ⟨.inr rfl, e⟩, Reps.mono Le.frz ds vs q⟩
  | dic tk ks ds =>
    obtain ⟨vs, e, q⟩ := h
    show DL.Rep K _ _ _ (.dic tk ks ds) _
    simp only [DL.Rep]
    exact ⟨p, vs, rfl, .inr rfl, e, Reps.mono Le.frz ds vs q⟩
  | obj C fs => exact absurd rfl (no C fs)
end

/-! ### the judgements -/
def qE (K : PySem.W.Frag) (Q : VK) : D → Ws → Prop := fun d w => ∀ v, w.Rep K d v → Q v w.H
def tE (K : PySem.W.Frag) (C : Cfg) (f : ES D) : TE := fun σ H Q => ∃ w : Ws, w.σ = σ ∧ w.H = H ∧ RelC K C w ∧ POST K C w (f w.ε w.S) (qE K Q)
/-- an expression, by what it comes to -/
def DE (X : Cx) (C : Cfg) (e : Expr) (f : ES D) : Prop := PE X e (tE X.K C f)
/-- a test -/
def tT (K : PySem.W.Frag) (C : Cfg) (f : ES Bool) : TT := fun σ H Q => ∃ w : Ws, w.σ = σ ∧ w.H = H ∧ RelC K C w ∧ POST K C w (f w.ε w.S) fun b w => Q b w.H
def DT (X : Cx) (C : Cfg) (e : Expr) (f : ES Bool) : Prop := PT X e (tT X.K C f)
/-- arguments -/
def qA (K : PySem.W.Frag) (Q : List V → Hp → Prop) : List D → Ws → Prop := fun ds w => ∀ vs, w.Reps K ds vs → Q vs w.H
def tA (K : PySem.W.Frag) (C : Cfg) (f : ES (List D)) : TA := fun σ H Q => ∃ w : Ws, w.σ = σ ∧ w.H = H ∧ RelC K C w ∧ POST K C w (f w.ε w.S) (qA K Q)
def DA (X : Cx) (C : Cfg) (es : List Expr) (f : ES (List D)) : Prop := PA X es (tA X.K C f)
/-- something new -/
def qF (K : PySem.W.Frag) (H0 : Hp) (Q : VK) : MO → Ws → Prop := fun m w => ∀ p, H0 p = none → Lone w p → w.MOk K p m → (∀ C fs, m ≠ .obj C fs) → Q (.ref p) w.H
def tF (K : PySem.W.Frag) (C : Cfg) (f : ES MO) : TE := fun σ H Q => ∃ w : Ws, w.σ = σ ∧ w.H = H ∧ RelC K C w ∧ POST K C w (f w.ε w.S) (qF K H Q)
def DF (X : Cx) (C : Cfg) (e : Expr) (f : ES MO) : Prop := PE X e (tF X.K C f)

theorem PE_imp {X : Cx} {e : Expr} {t t' : TE} (h : PE X e t) (i : ∀ σ H Q, t' σ H Q → t σ H Q) : PE X e t' := ⟨fun pins s σ H Q I q => h.run pins s σ H Q I (i σ H Q q)⟩
theorem PT_imp {X : Cx} {e : Expr} {t t' : TT} (h : PT X e t) (i : ∀ σ H Q, t' σ H Q → t σ H Q) : PT X e t' := ⟨fun pins s σ H Q I q => h.run pins s σ H Q I (i σ H Q q)⟩
theorem PA_imp {X : Cx} {e : List Expr} {t t' : TA} (h : PA X e t) (i : ∀ σ H Q, t' σ H Q → t σ H Q) : PA X e t' := ⟨fun pos pins s σ H Q I q => h.run pos pins s σ H Q I (i σ H Q q)⟩
theorem PS_imp {X : Cx} {e : Stmt} {t t' : TS} (h : PS X e t) (i : ∀ D σ H, t' D σ H → t D σ H) : PS X e t' := ⟨fun pins s σ H D I q => h.run pins s σ H D I (i D σ H q)⟩
theorem PSs_imp {X : Cx} {e : List Stmt} {t t' : TS} (h : PSs X e t) (i : ∀ D σ H, t' D σ H → t D σ H) : PSs X e t' := ⟨fun pins s σ H D I q => h.run pins s σ H D I (i D σ H q)⟩

section
variable {X : Cx} {C : Cfg} {e a b : Expr} {es : List Expr} {f fa fb : ES D} {pos : Pos}
/-! names and constants -/
def eCst (d : D) : ES D := fun ε S => .ok d ε S
theorem de_cst {v : V} {d : D} (h : PE X e (tC v)) (r : ∀ w : Ws, w.Rep X.K d v) : DE X C e (eCst d) :=
  PE_imp h fun σ H Q ⟨w, e1, e2, rl, q⟩ => by
    subst e2
    exact POST.now rl q v (r w)
theorem de_int {i j} : DE X C (.Constant (.int i) j pos) (eCst (.int i)) := de_cst pe_int fun w => by simp [DL.Rep]
theorem de_bl {b j} : DE X C (.Constant (.bool b) j pos) (eCst (.bl b)) := de_cst pe_bl fun w => by simp [DL.Rep]
theorem de_non {j} : DE X C (.Constant .none j pos) (eCst .non) := de_cst pe_non fun w => by simp [DL.Rep]
theorem de_str {x j} : DE X C (.Constant (.str x) j pos) (eCst (.str x)) := de_cst pe_str fun w => by simp [DL.Rep]
/-- a name: what it owns is given up -/
def eVar (i : Nat) : ES D := fun ε S => match ε[i]? with
  | some (some (.val d)) => .ok d ε S
  | some (some (.own (.obj _ _))) => .stuck
  | some (some (.own m)) => .ok m.toD (ε.set i (some (.val m.toD))) S
  | _ => .stuck
theorem Rel.giveUp {K : PySem.W.Frag} {w : Ws} (r : RelC K C w) {i : Nat} {m : MO} {p : Addr} (e : w.ε[i]? = some (some (.own m))) (s : w.σ[i]? = some (some (.ref p))) (no : ∀ C fs, m ≠ .obj C fs) :
    RelC K C { w with ε := w.ε.set i (some (.val m.toD)), Z := fun a => w.Z a ∨ a = p } ∧ Mono w { w with ε := w.ε.set i (some (.val m.toD)), Z := fun a => w.Z a ∨ a = p } ∧
      Ws.Rep { w with ε := w.ε.set i (some (.val m.toD)), Z := fun a => w.Z a ∨ a = p } K m.toD (.ref p) := by
  have hi : i < w.ε.length := (List.getElem?_eq_some_iff.mp e).1
  obtain ⟨q, s', hq, q1, q2⟩ := r.r.own i m e
  rw [s] at s'; cases s'
  have oth : ∀ {j : Nat} {x : SV}, (w.ε.set i (some (.val m.toD)))[j]? = some (some x) → (j = i ∧ x = .val m.toD) ∨ (j ≠ i ∧ w.ε[j]? = some (some x)) := fun {j x} h => by
    by_cases hj : i = j
    · subst hj
      rw [List.getElem?_set_self hi] at h
      cases h
      exact .inl ⟨rfl, rfl⟩
    · rw [List.getElem?_set_ne hj] at h
      exact .inr ⟨fun z => hj z.symm, h⟩
  have own' : ∀ {b : Addr}, Own (w.ε.set i (some (.val m.toD))) w.σ b → Own w.ε w.σ b ∧ b ≠ p := fun {b} ⟨j, x, h1, h2⟩ => by
    rcases oth h1 with ⟨_, h⟩ | ⟨hj, h⟩
    · cases h
    · refine ⟨⟨j, x, h, h2⟩, fun z => ?_⟩
      subst z
      exact hj (r.r.apart j i x m b h e h2 s)
  have m1 : Mono w { w with ε := w.ε.set i (some (.val m.toD)), Z := fun a => w.Z a ∨ a = p } :=
    ⟨fun _ h => .inl h, ⟨[], by simp⟩, fun _ _ h _ _ _ => h, fun a h => h.elim .inl fun h => .inr (.inr (by rw [h]; exact ⟨i, m, e, s⟩)), fun b h => .inl (own' h).1, fun _ h => .inl h, fun _ h => h⟩
  have rep : Ws.Rep { w with ε := w.ε.set i (some (.val m.toD)), Z := fun a => w.Z a ∨ a = p } K m.toD (.ref p) := by
    cases m with
    | lst ds =>
      obtain ⟨vs, e, q⟩ := hq
      show DL.Rep K _ _ _ (.lst ds) _
      simp only [DL.Rep]
      exact ⟨p, vs, rfl, .inl ⟨.inr rfl, e⟩, Reps.mono (m1.le r.r) ds vs q⟩
    | dic tk ks ds =>
      obtain ⟨vs, e, q⟩ := hq
      show DL.Rep K _ _ _ (.dic tk ks ds) _
      simp only [DL.Rep]
      exact ⟨p, vs, rfl, .inr rfl, e, Reps.mono (m1.le r.r) ds vs q⟩
    | obj C fs => exact absurd rfl (no C fs)
  refine ⟨⟨⟨by simpa using r.r.len, fun j d h => ?_, fun j x h => ?_, fun j k x y b h1 h2 => ?_, r.r.slen, fun n x b h1 h2 => MOk.mono (m1.le r.r) (fun _ h => h) (r.r.sto n x b h1 h2), r.r.nd, fun a h => ?_, fun a h => ?_⟩, r.m.trans m1, r.sz⟩, m1, rep⟩
  · rcases oth h with ⟨ej, k⟩ | ⟨hj, k⟩
    · have k' : d = m.toD := SV.val.inj k
      rw [k', ej]
      exact ⟨_, s, rep⟩
    · obtain ⟨v, h1, h2⟩ := r.r.val j d k
      exact ⟨v, h1, Rep.mono (m1.le r.r) d v h2⟩
  · rcases oth h with ⟨_, k⟩ | ⟨hj, k⟩
    · cases k
    · obtain ⟨b, h1, h2, h3, h4⟩ := r.r.own j x k
      refine ⟨b, h1, MOk.mono (m1.le r.r) (fun _ h => h) h2, h3, fun z => z.elim h4 fun z => ?_⟩
      subst z
      exact hj (r.r.apart j i x m b k e h1 s)
  · rcases oth h1 with ⟨_, h⟩ | ⟨_, h1⟩
    · cases h
    · rcases oth h2 with ⟨_, h⟩ | ⟨_, h2⟩
      · cases h
      · exact r.r.apart j k x y b h1 h2
  · rcases h with h | h
    · exact r.r.zfree a h
    · rw [h]; exact q1
  · rcases h with h | h
    · exact r.r.zin a h
    · obtain ⟨o, e, nt⟩ := hq.mt
      exact ⟨o, by rw [h]; exact e, nt⟩
theorem de_var' {i : Nat} (h : PE X e (tVar i)) : DE X C e (eVar i) := PE_imp h fun σ H Q ⟨w, e1, e2, rl, q⟩ => by
  subst e1; subst e2
  show ∃ v, w.σ[i]? = some (some v) ∧ Q v w.H
  unfold eVar at q
  cases hε : w.ε[i]? with
  | none => rw [hε] at q; exact False.elim q
  | some x =>
    rw [hε] at q
    cases x with
    | none => exact False.elim q
    | some x =>
      cases x with
      | val d =>
        obtain ⟨v, s, r⟩ := rl.r.val i d hε
        exact ⟨v, s, POST.now rl q v r⟩
      | own m =>
        obtain ⟨p, s, _⟩ := rl.r.own i m hε
        refine ⟨.ref p, s, ?_⟩
        cases m with
        | obj c fs => exact False.elim q
        | lst ds =>
          obtain ⟨r', m', rep⟩ := Rel.giveUp rl hε s (fun _ _ z => nomatch z)
          have q2 := POST.at q m' r' rfl rfl rfl
          exact q2 _ rep
        | dic tk ks ds =>
          obtain ⟨r', m', rep⟩ := Rel.giveUp rl hε s (fun _ _ z => nomatch z)
          have q2 := POST.at q m' r' rfl rfl rfl
          exact q2 _ rep
theorem de_var (i : Nat) {x : Str} (hN : X.N[i]? = some x := by rfl) (hv : Vis X.env.scope x := by first | exact Or.inl rfl | exact Or.inr (Or.inl rfl) | exact Or.inr (Or.inr rfl)) (hd : (x == ("__debug__" : Str)) = false := by decide)
    (hcd : (x == ("__classdict__" : Str)) = false := by decide) : DE X C (.Name x pos) (eVar i) := de_var' (pe_var hN hv hd hcd)
/-- a new thing, frozen -/
def eFrz (f : ES MO) : ES D := fun ε S => (f ε S).bind fun m ε S => .ok m.toD ε S
theorem de_frz {f : ES MO} (h : DF X C e f) : DE X C e (eFrz f) := PE_imp h fun σ H Q ⟨w, e1, e2, rl, q⟩ => by
  subst e1; subst e2
  refine ⟨w, rfl, rfl, rl, ?_⟩
  unfold eFrz at q
  cases hr : f w.ε w.S with
  | ok m ε S =>
    rw [hr] at q
    intro w1 k1 k2 k3 m1 r1 p hp l ho no
    obtain ⟨r2, rep⟩ := MOk.frz rl m1 hp r1 l ho no
    have q2 := POST.at q (Mono.frz m1 hp) r2 k1 k2 k3
    exact q2 _ rep
  | ex c ε S => rw [hr] at q; exact q
  | stuck => rw [hr] at q; exact q
/-! arguments -/
def aNil : ES (List D) := fun ε S => .ok [] ε S
def aCons (f : ES D) (g : ES (List D)) : ES (List D) := fun ε S => (f ε S).bind fun d ε S => (g ε S).bind fun ds ε S => .ok (d :: ds) ε S
theorem da_nil : DA X C [] aNil := PA_imp pa_nil fun σ H Q ⟨w, e1, e2, rl, q⟩ => by
  subst e2
  exact POST.now rl q [] (by simp [DL.Reps])
theorem da_cons {g : ES (List D)} (h1 : DE X C e f) (h2 : DA X C es g) (hs : starEach (e :: es) X.env = (false, eval e X.env) :: starEach es X.env := by rfl) : DA X C (e :: es) (aCons f g) :=
  PA_imp (pa_cons h1 h2 hs) fun σ H Q ⟨w, e1, e2, rl, q⟩ => by
    refine ⟨w, e1, e2, rl, POST.mono q.bind fun d w1 s1 m1 r1 ⟨_, _, _, q1⟩ v hv => ?_⟩
    refine ⟨w1, s1.trans e1, rfl, r1, POST.mono q1.bind fun ds w2 s2 m2 r2 ⟨_, _, _, q2⟩ vs hvs => ?_⟩
    exact POST.now r2 q2 (v :: vs) (by simp only [DL.Reps]; exact ⟨v, vs, rfl, Rep.mono (m2.le r1.r) d v hv, hvs⟩)
/-! two parts and an operation -/
def eOp (op : D → D → ES D) (fa fb : ES D) : ES D := fun ε S => (fa ε S).bind fun x ε S => (fb ε S).bind fun y ε S => op x y ε S
def OpOk (X : Cx) (C : Cfg) (r : R2) (op : D → D → ES D) : Prop := ∀ (w : Ws) (x y : V) (dx dy : D) (Q : VK), RelC X.K C w → w.Rep X.K dx x → w.Rep X.K dy y → POST X.K C w (op dx dy w.ε w.S) (qE X.K Q) → r x y w.H Q
theorem two_of {op : D → D → ES D} {r : R2} (ok : OpOk X C r op) : ∀ σ H Q, tE X.K C (eOp op fa fb) σ H Q → tOp r (tE X.K C fa) (tE X.K C fb) σ H Q := fun σ H Q ⟨w, e1, e2, rl, q⟩ => by
  refine ⟨w, e1, e2, rl, POST.mono q.bind fun d w1 s1 m1 r1 ⟨_, _, _, q1⟩ v hv => ?_⟩
  refine ⟨w1, s1.trans e1, rfl, r1, POST.mono q1.bind fun d2 w2 s2 m2 r2 ⟨_, _, _, q2⟩ v2 hv2 => ?_⟩
  exact ok w2 v v2 d d2 Q r2 (Rep.mono (m2.le r1.r) d v hv) hv2 q2
theorem de_op {op : Operator} {r : R2} {g : D → D → ES D} (ho : OpR X (binaryOp op) r) (ok : OpOk X C r g) (ha : DE X C a fa) (hb : DE X C b fb) : DE X C (.BinOp a op b pos) (eOp g fa fb) := PE_imp (pe_op ho ha hb) (two_of ok)
theorem de_cmp {op : CmpOp} {r : R2} {g : D → D → ES D} (ho : OpR X (compareOp op) r) (ok : OpOk X C r g) (ha : DE X C a fa) (hb : DE X C b fb) (hm : behindInMarks op b = false) : DE X C (.Compare a [op] [b] pos) (eOp g fa fb) :=
  PE_imp (pe_cmpR ho ha hb hm) (two_of ok)
/-- a value that is a truth, as a test -/
def isB : D → Option Bool
  | .bl b => some b
  | _ => none
def tOf (f : ES D) : ES Bool := fun ε S => (f ε S).bind fun d ε S => R.opt (isB d) ε S
theorem rep_bl {w : Ws} {K : PySem.W.Frag} {b : Bool} {v : V} (h : w.Rep K (.bl b) v) : v = .bl b := by simpa [DL.Rep] using h
theorem isB_some {d : D} {b : Bool} (h : isB d = some b) : d = .bl b := by
  cases d <;> simp [isB] at h
  rw [h]
theorem test_of {t : TE} (hE : ∀ σ H Q, tE X.K C f σ H Q → t σ H Q) : ∀ σ H Q, tT X.K C (tOf f) σ H Q → tTest t σ H Q := fun σ H Q ⟨w, e1, e2, rl, q⟩ => by
  refine hE σ H _ ⟨w, e1, e2, rl, POST.mono q.bind fun d w1 s1 m1 r1 ⟨_, _, _, q1⟩ v hv => ?_⟩
  obtain ⟨k, ek, q2⟩ := POST.opt q1
  have ed := isB_some ek
  subst ed
  exact ⟨k, rep_bl hv, POST.now r1 q2⟩
theorem dt_cmp {op : CmpOp} {r : R2} {g : D → D → ES D} (ho : OpR X (compareOp op) r) (ok : OpOk X C r g) (ha : DE X C a fa) (hb : DE X C b fb) (hm : behindInMarks op b = false) : DT X C (.Compare a [op] [b] pos) (tOf (eOp g fa fb)) :=
  PT_imp (pt_cmpR ho ha hb hm) (test_of (two_of ok))
theorem dt_val (h : DE X C e f) (he : ∀ whole, isTrue e X.env whole = (do let v ← whole; standAt e.pos; holding [v] (truthy v)) := by intro _; rfl) : DT X C e (tOf f) :=
  PT_imp (pt_val h he) (test_of fun σ H Q q => q)
end
end DL
namespace DL
open L2 PyProof.Rows PySem PySem.Spec
variable [TabT]

/-! ### statements -/
inductive SR where
  | nx (ε : EV) (S : Sto) | rt (d : D) (ε : EV) (S : Sto) | bk (ε : EV) (S : Sto) | ct (ε : EV) (S : Sto) | ex (c : Nat) (ε : EV) (S : Sto) | stuck
abbrev SS := EV → Sto → SR
def R.toS {α : Type} (r : R α) (k : α → EV → Sto → SR) : SR := match r with
  | .ok a ε S => k a ε S
  | .ex c ε S => .ex c ε S
  | .stuck => .stuck
def POSTS (K : PySem.W.Frag) (C : Cfg) (w : Ws) (r : SR) (E : Ends) : Prop := match r with
  | .nx ε S => ∀ w' : Ws, w'.ε = ε → w'.S = S → Mono w w' → RelC K C w' → E.nx w'.σ w'.H
  | .rt d ε S => ∀ w' : Ws, w'.ε = ε → w'.S = S → Mono w w' → RelC K C w' → ∀ v, w'.Rep K d v → E.rt v w'.H
  | .bk ε S => ∀ w' : Ws, w'.ε = ε → w'.S = S → Mono w w' → RelC K C w' → E.bk w'.σ w'.H
  | .ct ε S => ∀ w' : Ws, w'.ε = ε → w'.S = S → Mono w w' → RelC K C w' → E.ct w'.σ w'.H
  | .ex c ε S => ∀ w' : Ws, w'.ε = ε → w'.S = S → Mono w w' → RelC K C w' → C.W (C.exc c) none w'.σ w'.H
  | .stuck => False
section
variable {K : PySem.W.Frag} {C : Cfg} {w w' : Ws} {α : Type} {E : Ends}
theorem POSTS.lift {r : SR} (m : Mono w w') (h : POSTS K C w r E) : POSTS K C w' r E := by
  cases r with
  | nx ε S => exact fun w2 e1 e2 m2 r2 => h w2 e1 e2 (m.trans m2) r2
  | rt d ε S => exact fun w2 e1 e2 m2 r2 => h w2 e1 e2 (m.trans m2) r2
  | bk ε S => exact fun w2 e1 e2 m2 r2 => h w2 e1 e2 (m.trans m2) r2
  | ct ε S => exact fun w2 e1 e2 m2 r2 => h w2 e1 e2 (m.trans m2) r2
  | ex c ε S => exact fun w2 e1 e2 m2 r2 => h w2 e1 e2 (m.trans m2) r2
  | stuck => exact h
theorem POSTS.of {r : R α} {k : α → EV → Sto → SR} (h : POSTS K C w (r.toS k) E) :
    POST K C w r fun a w' => w'.σ = w.σ ∧ Mono w w' ∧ RelC K C w' ∧ POSTS K C w' (k a w'.ε w'.S) E := by
  cases r with
  | ok a ε S =>
    intro w' e1 e2 e3 m r
    have h' : POSTS K C w (k a ε S) E := h
    refine ⟨e3, m, r, ?_⟩
    rw [e1, e2]
    exact h'.lift m
  | ex c ε S =>
    intro w' e1 e2 e3 m r
    have := h w' e1 e2 m r
    rw [← e3]; exact this
  | stuck => exact h
theorem POSTS.nx_at {ε : EV} {S : Sto} (h : POSTS K C w (.nx ε S) E) (m : Mono w w') (r : RelC K C w') (e1 : w'.ε = ε) (e2 : w'.S = S) : E.nx w'.σ w'.H := h w' e1 e2 m r
end
def tSS (K : PySem.W.Frag) (C : Cfg) (g : SS) : TS := fun E σ H => ∃ w : Ws, w.σ = σ ∧ w.H = H ∧ RelC K C w ∧ POSTS K C w (g w.ε w.S) E
def DS (X : Cx) (C : Cfg) (st : Stmt) (g : SS) : Prop := PS X st (tSS X.K C g)
def DSs (X : Cx) (C : Cfg) (st : List Stmt) (g : SS) : Prop := PSs X st (tSS X.K C g)

section
variable {X : Cx} {C : Cfg} {e : Expr} {st : Stmt} {rest : List Stmt} {f : ES D} {g g1 g2 : SS} {c : ES Bool} {pos : Pos}
def sNil : SS := fun ε S => .nx ε S
def sSeq (g1 g2 : SS) : SS := fun ε S => match g1 ε S with
  | .nx ε S => g2 ε S
  | r => r
theorem dss_nil : DSs X C [] sNil := PSs_imp pss_nil fun E σ H ⟨w, e1, e2, rl, q⟩ => by
  subst e1; subst e2
  exact q w rfl rfl (Mono.refl w) rl
theorem dss_one (h : DS X C st g) : DSs X C [st] g := pss_one h
theorem dss_cons (h1 : DS X C st g1) (h2 : DSs X C rest g2) : DSs X C (st :: rest) (sSeq g1 g2) := PSs_imp (pss_cons h1 h2) fun E σ H ⟨w, e1, e2, rl, q⟩ => by
  refine ⟨w, e1, e2, rl, ?_⟩
  unfold sSeq at q
  cases hr : g1 w.ε w.S with
  | nx ε S =>
    rw [hr] at q
    intro w' k1 k2 m r
    refine ⟨w', rfl, rfl, r, ?_⟩
    rw [k1, k2]
    exact POSTS.lift m q
  | rt d ε S => rw [hr] at q; exact q
  | bk ε S => rw [hr] at q; exact q
  | ct ε S => rw [hr] at q; exact q
  | ex c ε S => rw [hr] at q; exact q
  | stuck => rw [hr] at q; exact q
def sIf (c : ES Bool) (g1 g2 : SS) : SS := fun ε S => (c ε S).toS fun b ε S => if b then g1 ε S else g2 ε S
theorem ds_if {a b : List Stmt} (hc : DT X C e c) (h1 : DSs X C a g1) (h2 : DSs X C b g2) : DS X C (.If e a b pos) (sIf c g1 g2) := PS_imp (ps_if hc h1 h2) fun E σ H ⟨w, e1, e2, rl, q⟩ => by
  refine ⟨w, e1, e2, rl, POST.mono q.of fun b w1 s1 m1 r1 ⟨_, _, _, q1⟩ => ?_⟩
  cases b with
  | true => rw [if_pos rfl] at q1 ⊢; exact ⟨w1, s1.trans e1, rfl, r1, q1⟩
  | false => rw [if_neg Bool.false_ne_true] at q1 ⊢; exact ⟨w1, s1.trans e1, rfl, r1, q1⟩
def sRet (f : ES D) : SS := fun ε S => (f ε S).toS fun d ε S => .rt d ε S
theorem ds_ret (h : DE X C e f) : DS X C (.Return (some e) pos) (sRet f) := PS_imp (ps_ret h) fun E σ H ⟨w, e1, e2, rl, q⟩ => by
  refine ⟨w, e1, e2, rl, POST.mono q.of fun d w1 s1 m1 r1 ⟨_, _, _, q1⟩ v hv => ?_⟩
  exact q1 w1 rfl rfl (Mono.refl w1) r1 v hv
def sRetN : SS := fun ε S => .rt .non ε S
theorem ds_retN : DS X C (.Return none pos) sRetN := PS_imp ps_retN fun E σ H ⟨w, e1, e2, rl, q⟩ => by
  subst e2
  exact q w rfl rfl (Mono.refl w) rl .non (by simp [DL.Rep])
def sExpr (f : ES D) : SS := fun ε S => (f ε S).toS fun _ ε S => .nx ε S
theorem ds_expr (h : DE X C e f) (hs : swapsWith e none pos.line X.env = pure false := by rfl) : DS X C (.Expr e pos) (sExpr f) := PS_imp (ps_expr h hs) fun E σ H ⟨w, e1, e2, rl, q⟩ => by
  refine ⟨w, e1, e2, rl, POST.mono q.of fun d w1 s1 m1 r1 ⟨_, _, _, q1⟩ v hv => ?_⟩
  have := q1 w1 rfl rfl (Mono.refl w1) r1
  rw [s1, e1] at this; exact this
theorem ds_doc {x j pos'} : DS X C (.Expr (.Constant (.str x) j pos) pos') sNil := PS_imp ps_doc fun E σ H ⟨w, e1, e2, rl, q⟩ => by
  subst e1; subst e2
  exact q w rfl rfl (Mono.refl w) rl
def sBk : SS := fun ε S => .bk ε S
theorem ds_break : DS X C (.Break pos) sBk := PS_imp ps_break fun E σ H ⟨w, e1, e2, rl, q⟩ => by
  subst e1; subst e2
  exact q w rfl rfl (Mono.refl w) rl
def sPass : SS := fun ε S => .nx ε S
theorem ds_pass : DS X C (.Pass pos) sPass := PS_imp ps_pass fun E σ H ⟨w, e1, e2, rl, q⟩ => by
  subst e1; subst e2
  exact q w rfl rfl (Mono.refl w) rl

/-! ### a slot is set -/
abbrev Ws.setV (w : Ws) (i : Nat) (d : D) (v : V) : Ws := { w with ε := w.ε.set i (some (.val d)), σ := w.σ.set i (some v) }
abbrev Ws.setO (w : Ws) (i : Nat) (m : MO) (p : Addr) : Ws := { w with ε := w.ε.set i (some (.own m)), σ := w.σ.set i (some (.ref p)) }
theorem set_cases {α : Type} {l : List α} {i j : Nat} {x y : α} (h : (l.set i x)[j]? = some y) : (j = i ∧ y = x ∧ i < l.length) ∨ (j ≠ i ∧ l[j]? = some y) := by
  by_cases e : i = j
  · subst e
    have hi : i < l.length := by
      have := (List.getElem?_eq_some_iff.mp h).1
      simpa using this
    rw [List.getElem?_set_self hi] at h
    cases h
    exact .inl ⟨rfl, rfl, hi⟩
  · rw [List.getElem?_set_ne e] at h
    exact .inr ⟨fun z => e z.symm, h⟩
theorem Mono.setV {w : Ws} {i : Nat} {d : D} {v : V} : Mono w (w.setV i d v) := by
  refine ⟨fun _ h => h, ⟨[], by simp⟩, fun _ _ h _ _ _ => h, fun _ h => .inl h, fun p ⟨j, m, h1, h2⟩ => ?_, fun _ h => .inl h, fun _ h => h⟩
  rcases set_cases h1 with ⟨_, z, _⟩ | ⟨hj, h1⟩
  · cases z
  · rcases set_cases h2 with ⟨z, _⟩ | ⟨_, h2⟩
    · exact absurd z hj
    · exact .inl ⟨j, m, h1, h2⟩
theorem RelC.setV {K : PySem.W.Frag} {w : Ws} {i : Nat} {d : D} {v : V} (r : RelC K C w) (h : w.Rep K d v) : RelC K C (w.setV i d v) := by
  refine ⟨⟨by simpa using r.r.len, fun j x e => ?_, fun j x e => ?_, fun j k x y p h1 h2 h3 h4 => ?_, r.r.slen, r.r.sto, r.r.nd, r.r.zfree, r.r.zin⟩, r.m.trans Mono.setV, r.sz⟩
  · rcases set_cases e with ⟨ej, z, hi⟩ | ⟨hj, e⟩
    · subst ej
      cases z
      exact ⟨v, List.getElem?_set_self (by rw [← r.r.len]; exact hi), h⟩
    · obtain ⟨u, e1, e2⟩ := r.r.val j x e
      exact ⟨u, (List.getElem?_set_ne (fun z => hj z.symm)).trans e1, e2⟩
  · rcases set_cases e with ⟨ej, z, hi⟩ | ⟨hj, e⟩
    · cases z
    · obtain ⟨p, e1, e2⟩ := r.r.own j x e
      exact ⟨p, (List.getElem?_set_ne (fun z => hj z.symm)).trans e1, e2⟩
  · rcases set_cases h1 with ⟨_, z, _⟩ | ⟨hj, h1⟩
    · cases z
    · rcases set_cases h2 with ⟨_, z, _⟩ | ⟨hk, h2⟩
      · cases z
      · rcases set_cases h3 with ⟨z, _⟩ | ⟨_, h3⟩
        · exact absurd z hj
        · rcases set_cases h4 with ⟨z, _⟩ | ⟨_, h4⟩
          · exact absurd z hk
          · exact r.r.apart j k x y p h1 h2 h3 h4
/-- from the state w0 ahead of the thing's making -/
theorem Mono.setO {w0 w : Ws} {i : Nat} {x : MO} {p : Addr} (m : Mono w0 w) (hp : w0.H p = none) : Mono w0 (w.setO i x p) := by
  refine ⟨m.z, m.pre, m.keep, m.zold, fun q ⟨j, y, h1, h2⟩ => ?_, m.rho, m.dom⟩
  rcases set_cases h1 with ⟨ej, z, hi⟩ | ⟨hj, h1⟩
  · rcases set_cases h2 with ⟨_, z2, _⟩ | ⟨hk, _⟩
    · cases z2; exact .inr hp
    · exact absurd ej hk
  · rcases set_cases h2 with ⟨z, _⟩ | ⟨_, h2⟩
    · exact absurd z hj
    · exact m.own q ⟨j, y, h1, h2⟩
theorem RelC.setO {K : PySem.W.Frag} {w0 w : Ws} {i : Nat} {x : MO} {p : Addr} (r : RelC K C w) (r0 : RelC K C w0) (m : Mono w0 w) (hp : w0.H p = none) (l : Lone w p) (h : w.MOk K p x) : RelC K C (w.setO i x p) := by
  refine ⟨⟨by simpa using r.r.len, fun j d e => ?_, fun j y e => ?_, fun j k y z q h1 h2 h3 h4 => ?_, r.r.slen, r.r.sto, r.r.nd, r.r.zfree, r.r.zin⟩, r0.m.trans (Mono.setO m hp), r.sz⟩
  · rcases set_cases e with ⟨ej, z, hi⟩ | ⟨hj, e⟩
    · cases z
    · obtain ⟨u, e1, e2⟩ := r.r.val j d e
      exact ⟨u, (List.getElem?_set_ne (fun z => hj z.symm)).trans e1, e2⟩
  · rcases set_cases e with ⟨ej, z, hi⟩ | ⟨hj, e⟩
    · subst ej
      cases z
      exact ⟨p, List.getElem?_set_self (by rw [← r.r.len]; exact hi), h, l.ρ, l.z⟩
    · obtain ⟨u, e1, e2⟩ := r.r.own j y e
      exact ⟨u, (List.getElem?_set_ne (fun z => hj z.symm)).trans e1, e2⟩
  · rcases set_cases h1 with ⟨ej, zj, _⟩ | ⟨hj, h1⟩
    · rcases set_cases h2 with ⟨ek, zk, _⟩ | ⟨hk, h2⟩
      · rw [ej, ek]
      · rcases set_cases h3 with ⟨_, z3, _⟩ | ⟨h3, _⟩
        · rcases set_cases h4 with ⟨h4, _⟩ | ⟨_, h4⟩
          · exact absurd h4 hk
          · cases z3
            exact (l.own ⟨k, z, h2, h4⟩).elim
        · exact absurd ej h3
    · rcases set_cases h2 with ⟨ek, zk, _⟩ | ⟨hk, h2⟩
      · rcases set_cases h4 with ⟨_, z4, _⟩ | ⟨h4, _⟩
        · rcases set_cases h3 with ⟨h3, _⟩ | ⟨_, h3⟩
          · exact absurd h3 hj
          · cases z4
            exact (l.own ⟨j, y, h1, h3⟩).elim
        · exact absurd ek h4
      · rcases set_cases h3 with ⟨z3, _⟩ | ⟨_, h3⟩
        · exact absurd z3 hj
        · rcases set_cases h4 with ⟨z4, _⟩ | ⟨_, h4⟩
          · exact absurd z4 hk
          · exact r.r.apart j k y z q h1 h2 h3 h4
/-! ### targets -/
abbrev GS := D → ES Unit
/-- the slots at vs alone may be others -/
def Sam (vs : List Nat) (σ σ' : L2.St) : Prop := σ'.length = σ.length ∧ ∀ (j : Nat), j ∉ vs → σ'[j]? = σ[j]?
theorem Sam.refl (vs : List Nat) (σ : L2.St) : Sam vs σ σ := ⟨rfl, fun _ _ => rfl⟩
theorem Sam.trans {vs : List Nat} {σ σ' σ'' : L2.St} (a : Sam vs σ σ') (b : Sam vs σ' σ'') : Sam vs σ σ'' := ⟨b.1.trans a.1, fun j h => (b.2 j h).trans (a.2 j h)⟩
theorem Sam.more {vs us : List Nat} {σ σ' : L2.St} (a : Sam vs σ σ') (h : ∀ i ∈ vs, i ∈ us) : Sam us σ σ' := ⟨a.1, fun j hj => a.2 j fun z => hj (h j z)⟩
def POSTG (K : PySem.W.Frag) (C : Cfg) (w : Ws) (vs : List Nat) (r : R Unit) (P : Ws → Prop) : Prop := match r with
  | .ok _ ε S => ∀ w' : Ws, w'.ε = ε → w'.S = S → Sam vs w.σ w'.σ → Mono w w' → RelC K C w' → P w'
  | _ => False
def tGG (K : PySem.W.Frag) (C : Cfg) (vs : List Nat) (g : GS) : TG := fun v σ H Q => ∃ (w : Ws) (d : D), w.σ = σ ∧ w.H = H ∧ RelC K C w ∧ w.Rep K d v ∧ POSTG K C w vs (g d w.ε w.S) fun w' => Q w'.σ w'.H
def DG (X : Cx) (C : Cfg) (vs : List Nat) (e : Expr) (g : GS) : Prop := PG X e (tGG X.K C vs g)
theorem PG_imp {t t' : TG} (h : PG X e t) (i : ∀ v σ H Q, t' v σ H Q → t v σ H Q) : PG X e t' := ⟨fun pins s σ H v u Q I r q => h.run pins s σ H v u Q I r (i v σ H Q q)⟩
def gVar (i : Nat) : GS := fun d ε S => .ok () (ε.set i (some (.val d))) S
theorem dg_name' {i : Nat} (h : PG X e (gName i)) : DG X C [i] e (gVar i) := PG_imp h fun v σ H Q ⟨w, d, e1, e2, rl, hv, q⟩ => by
  subst e1; subst e2
  exact q (w.setV i d v) rfl rfl ⟨by simp, fun j hj => List.getElem?_set_ne fun z => hj (by simp [z])⟩ Mono.setV (rl.setV hv)
theorem dg_name (i : Nat) {x : Str} (hN : X.N.Nodup) (hi : X.N[i]? = some x := by rfl) (hx : Loc X.env.scope x := by first | exact Or.inl rfl | exact Or.inr rfl) (hf : X.fn x = true ∨ X.env.scope.names.lookup x = some .local := by first | exact .inl rfl | exact .inr rfl) : DG X C [i] (.Name x pos) (gVar i) :=
  dg_name' (pg_name hN hi hx hf)
theorem POSTG.lift {K : PySem.W.Frag} {w w' : Ws} {vs us : List Nat} {r : R Unit} {P : Ws → Prop} (m : Mono w w') (s : Sam us w.σ w'.σ) (hu : ∀ i ∈ us, i ∈ vs) {ws : List Nat} (hw : ∀ i ∈ ws, i ∈ vs) (h : POSTG K C w vs r P) : POSTG K C w' ws r P := by
  cases r with
  | ok a ε S => exact fun w2 e1 e2 s2 m2 r2 => h w2 e1 e2 ((s.more hu).trans (s2.more hw)) (m.trans m2) r2
  | ex c ε S => exact h
  | stuck => exact h
/-- several targets -/
abbrev GSs := List D → ES Unit
def tGGs (K : PySem.W.Frag) (C : Cfg) (us : List Nat) (g : GSs) : TGs := fun vs σ H Q => ∃ (w : Ws) (ds : List D), w.σ = σ ∧ w.H = H ∧ RelC K C w ∧ w.Reps K ds vs ∧ POSTG K C w us (g ds w.ε w.S) fun w' => Q w'.σ w'.H
def DGs (X : Cx) (C : Cfg) (us : List Nat) (es : List Expr) (g : GSs) : Prop := PGs X es (tGGs X.K C us g)
theorem PGs_imp {es : List Expr} {t t' : TGs} (h : PGs X es t) (i : ∀ v σ H Q, t' v σ H Q → t v σ H Q) : PGs X es t' := ⟨fun pins s σ H v u Q I r q => h.run pins s σ H v u Q I r (i v σ H Q q)⟩
def ggNil : GSs := fun ds ε S => match ds with
  | [] => .ok () ε S
  | _ => .stuck
def ggCons (g : GS) (h : GSs) : GSs := fun ds ε S => match ds with
  | [] => .stuck
  | d :: ds => (g d ε S).bind fun _ ε S => h ds ε S
theorem dgs_nil : DGs X C [] [] ggNil := PGs_imp pgs_nil fun v σ H Q ⟨w, ds, e1, e2, rl, hv, q⟩ => by
  subst e1; subst e2
  cases ds with
  | nil =>
    have hv : DL.Reps X.K w.Z w.ρ w.H [] v := hv
    simp only [DL.Reps] at hv
    exact ⟨hv, q w rfl rfl (Sam.refl _ _) (Mono.refl w) rl⟩
  | cons d ds => exact False.elim q
theorem dgs_cons {es : List Expr} {us ws : List Nat} {g1 : GS} {g2 : GSs} (h1 : DG X C us e g1) (h2 : DGs X C ws es g2) (hs : (assignEach (e :: es) X.env).map (·.2) = assign e X.env :: (assignEach es X.env).map (·.2) := by rfl) :
    DGs X C (us ++ ws) (e :: es) (ggCons g1 g2) := PGs_imp (pgs_cons h1 h2 hs) fun v σ H Q ⟨w, ds, e1, e2, rl, hv, q⟩ => by
  cases ds with
  | nil => exact False.elim q
  | cons d ds =>
    have hv : DL.Reps X.K w.Z w.ρ w.H (d :: ds) v := hv
    simp only [DL.Reps] at hv
    obtain ⟨u, uz, ev, h1, h2⟩ := hv
    refine ⟨u, uz, ev, w, d, e1, e2, rl, h1, ?_⟩
    unfold ggCons at q
    cases hr : g1 d w.ε w.S with
    | ok a ε S =>
      dsimp only at q
      rw [hr] at q
      intro w' k1 k2 s m r
      refine ⟨w', ds, rfl, rfl, r, Reps.mono (m.le rl.r) ds _ h2, ?_⟩
      rw [k1, k2]
      exact POSTG.lift m s (fun i h => List.mem_append_left _ h) (fun i h => List.mem_append_right _ h) q
    | ex c ε S => dsimp only at q; rw [hr] at q; exact False.elim q
    | stuck => dsimp only at q; rw [hr] at q; exact False.elim q
/-- (a, b, ..) = a tuple or a list of just so many -/
def dItems : D → Option (List D)
  | .tup ds => some ds
  | .lst ds => some ds
  | _ => none
def gTupD (n : Nat) (g : GSs) : GS := fun d ε S => match d with
  | .tup ds => if ds.length = n then g ds ε S else .stuck
  | _ => .stuck
def gLstD (n : Nat) (g : GSs) : GS := fun d ε S => match d with
  | .lst ds => if ds.length = n then g ds ε S else .stuck
  | _ => .stuck
theorem Reps.length {K : PySem.W.Frag} {Z : Addr → Prop} {ρ : List Addr} {H : Hp} : ∀ {ds : List D} {vs : List V}, Reps K Z ρ H ds vs → vs.length = ds.length
  | [], vs, h => by
    simp only [DL.Reps] at h
    subst h
    rfl
  | d :: ds, vs, h => by
    simp only [DL.Reps] at h
    obtain ⟨v, ws, e, _, h⟩ := h
    rw [e, List.length_cons, List.length_cons, Reps.length h]
theorem dg_tup {es : List Expr} {k : Nat} {us : List Nat} {g : GSs} {n : Nat} (hc : X.calm = true) (h : DGs X C us es g) (hn : (assignEach es X.env).length = n := by rfl) (hst : (assignEach es X.env).findIdx? (·.1) = none := by rfl) :
    DG X C us (.Tuple es k pos) (gTupD n g) := PG_imp (pg_tup hc h hn hst) fun v σ H Q ⟨w, d, e1, e2, rl, hv, q⟩ => by
  subst e2
  cases d with
  | tup ds =>
    have hv : DL.Rep X.K w.Z w.ρ w.H (.tup ds) v := hv
    simp only [DL.Rep] at hv
    obtain ⟨a, vs, ev, hs, hr⟩ := hv
    unfold gTupD at q
    dsimp only at q
    split at q
    · rename_i hl
      exact ⟨a, vs, ev, hs.sq, hr.length.trans hl, w, ds, e1, rfl, rl, hr, q⟩
    · exact False.elim q
  | _ => exact False.elim q
theorem dg_lst {es : List Expr} {k : Nat} {us : List Nat} {g : GSs} {n : Nat} (hc : X.calm = true) (h : DGs X C us es g) (hn : (assignEach es X.env).length = n := by rfl) (hst : (assignEach es X.env).findIdx? (·.1) = none := by rfl) :
    DG X C us (.Tuple es k pos) (gLstD n g) := PG_imp (pg_lst hc h hn hst) fun v σ H Q ⟨w, d, e1, e2, rl, hv, q⟩ => by
  subst e2
  cases d with
  | lst ds =>
    have hv : DL.Rep X.K w.Z w.ρ w.H (.lst ds) v := hv
    simp only [DL.Rep] at hv
    obtain ⟨a, vs, ev, hs, hr⟩ := hv
    unfold gLstD at q
    dsimp only at q
    split at q
    · rename_i hl
      exact ⟨a, vs, ev, hs.sq, hr.length.trans hl, w, ds, e1, rfl, rl, hr, q⟩
    · exact False.elim q
  | _ => exact False.elim q
/-- target = value -/
def G.toS (r : R Unit) : SR := match r with
  | .ok _ ε S => .nx ε S
  | .ex c ε S => .ex c ε S
  | .stuck => .stuck
def noexU (r : R Unit) : SR := match r with
  | .ok _ ε S => .nx ε S
  | _ => .stuck
def sAsg (f : ES D) (g : GS) : SS := fun ε S => (f ε S).toS fun d ε S => noexU (g d ε S)
theorem POSTG.of {K : PySem.W.Frag} {w : Ws} {us : List Nat} {r : R Unit} {E : Ends} (h : POSTS K C w (noexU r) E) : POSTG K C w us r fun w' => E.nx w'.σ w'.H := by
  cases r with
  | ok a ε S => exact fun w2 e1 e2 _ m2 r2 => h w2 e1 e2 m2 r2
  | ex c ε S => exact h
  | stuck => exact h
theorem ds_asg {us : List Nat} {tg : Expr} {g : GS} (he : DE X C e f) (hg : DG X C us tg g) (hs : swapsWithSole [tg] e pos.line X.env = pure false := by rfl) (hw : swappedStores [tg] e X.env = pure none := by rfl)
    (h1 : (assignEach [tg] X.env).map (·.2) = [assign tg X.env] := by rfl) : DS X C (.Assign [tg] e pos) (sAsg f g) := PS_imp (ps_asg he hg hs hw h1) fun E σ H ⟨w, e1, e2, rl, q⟩ => by
  refine ⟨w, e1, e2, rl, POST.mono q.of fun d w1 s1 m1 r1 ⟨_, _, _, q1⟩ v hv => ?_⟩
  exact ⟨w1, d, s1.trans e1, rfl, r1, hv, POSTG.of q1⟩
/-- a name = value -/
def sSet (i : Nat) (f : ES D) : SS := fun ε S => (f ε S).toS fun d ε S => .nx (ε.set i (some (.val d))) S
theorem ds_set (i : Nat) {x : Str} {pos' : Pos} (hN : X.N.Nodup) (he : DE X C e f) (hi : X.N[i]? = some x := by rfl) (hx : Loc X.env.scope x := by first | exact Or.inl rfl | exact Or.inr rfl) (hs : swapsWith e (some (.Name x pos')) pos.line X.env = pure false := by rfl)
    (hf : X.fn x = true ∨ X.env.scope.names.lookup x = some .local := by first | exact .inl rfl | exact .inr rfl) : DS X C (.Assign [.Name x pos'] e pos) (sSet i f) := PS_imp (ps_set hN hi hx he hs hf) fun E σ H ⟨w, e1, e2, rl, q⟩ => by
  refine ⟨w, e1, e2, rl, POST.mono q.of fun d w1 s1 m1 r1 ⟨_, _, _, q1⟩ v hv => ?_⟩
  have z := POSTS.nx_at q1 (Mono.setV (i := i) (d := d) (v := v)) (r1.setV hv) rfl rfl
  have s : w1.σ = σ := s1.trans e1
  subst s
  exact z
/-- a name = something new, which it owns -/
def sOwn (i : Nat) (f : ES MO) : SS := fun ε S => (f ε S).toS fun m ε S => .nx (ε.set i (some (.own m))) S
theorem ds_own (i : Nat) {x : Str} {pos' : Pos} {f : ES MO} (hN : X.N.Nodup) (he : DF X C e f) (hi : X.N[i]? = some x := by rfl) (hx : Loc X.env.scope x := by first | exact Or.inl rfl | exact Or.inr rfl) (hs : swapsWith e (some (.Name x pos')) pos.line X.env = pure false := by rfl)
    (hf : X.fn x = true ∨ X.env.scope.names.lookup x = some .local := by first | exact .inl rfl | exact .inr rfl) : DS X C (.Assign [.Name x pos'] e pos) (sOwn i f) := PS_imp (ps_set hN hi hx he hs hf) fun E σ H ⟨w, e1, e2, rl, q⟩ => by
  subst e1; subst e2
  refine ⟨w, rfl, rfl, rl, ?_⟩
  unfold sOwn at q
  cases hr : f w.ε w.S with
  | ok a ε S =>
    rw [hr] at q
    intro w1 k1 k2 k3 m1 r1 p hp l ho no
    have z := POSTS.nx_at (w' := w1.setO i a p) q (Mono.setO m1 hp) (RelC.setO r1 rl m1 hp l ho) (by show w1.ε.set i _ = _; rw [k1]) k2
    rw [← k3]
    exact z
  | ex c ε S =>
    rw [hr] at q
    intro w1 k1 k2 k3 m1 r1
    have := q w1 k1 k2 m1 r1
    rw [← k3]; exact this
  | stuck => rw [hr] at q; exact q
end
end DL
namespace DL
open L2 PyProof.Rows PySem PySem.Spec
variable [TabT]

/-! ### what is walked -/
def IterOk (K : PySem.W.Frag) (C : Cfg) (w : Ws) (J : It) (ds : List D) : Prop :=
  ds.length ≤ sizeLine ∧ ∃ (G : Hp → Prop) (Y : Nat → Hp → V → Hp → Prop), Walk J ds.length G Y ∧ ∀ w2 : Ws, Mono w w2 → RelC K C w2 → G w2.H ∧
    ∀ (i : Nat) (d : D) (x : V) (H3 : Hp), ds[i]? = some d → Y i w2.H x H3 → ∃ w3 : Ws, w3.H = H3 ∧ w3.σ = w2.σ ∧ w3.ε = w2.ε ∧ w3.S = w2.S ∧ Mono w2 w3 ∧ RelC K C w3 ∧ w3.Rep K d x
def tI (K : PySem.W.Frag) (C : Cfg) (f : ES (List D)) : TI := fun σ H R => ∃ w : Ws, w.σ = σ ∧ w.H = H ∧ RelC K C w ∧ POST K C w (f w.ε w.S) fun ds w' => ∀ J, IterOk K C w' J ds → R J w'.H
def DI (X : Cx) (C : Cfg) (tg e : Expr) (f : ES (List D)) : Prop := PI X tg e (tI X.K C f)
theorem PI_imp {X : Cx} {tg e : Expr} {t t' : TI} (h : PI X tg e t) (i : ∀ σ H Q, t' σ H Q → t σ H Q) : PI X tg e t' := ⟨fun pins s σ H Q I q => h.run pins s σ H Q I (i σ H Q q)⟩

/-! ### for -/
def sForL (g : GS) (b : SS) : List D → SS
  | [], ε, S => .nx ε S
  | d :: ds, ε, S => match g d ε S with
    | .ok _ ε S => (match b ε S with
      | .nx ε S => sForL g b ds ε S
      | .ct ε S => sForL g b ds ε S
      | .bk ε S => .nx ε S
      | .rt d ε S => .rt d ε S
      | .ex c ε S => .ex c ε S
      | .stuck => .stuck)
    | _ => .stuck
def sFor (it : ES (List D)) (g : GS) (b : SS) : SS := fun ε S => (it ε S).toS fun ds ε S => sForL g b ds ε S
section
variable {X : Cx} {C : Cfg} {e tg : Expr} {it : ES (List D)} {g : GS} {b : SS} {pos : Pos} {body : List Stmt}
theorem drop_at {α : Type} {l : List α} {i : Nat} (h : i < l.length) : l[i]? = some l[i] ∧ l.drop i = l[i] :: l.drop (i + 1) := ⟨List.getElem?_eq_getElem h, List.drop_eq_getElem_cons h⟩
theorem ds_for (hp : PassesOwn (model X.prog X.w) X.A X.env X.xe) (hc : X.calm = true) {us : List Nat} (hi : DI X C tg e it) (hg : DG X C us tg g) (hb : DSs X C body b) (hs : ∀ x, foldedSetIterable e X.env x = pure x := by intro _; rfl) :
    DS X C (.For tg e body [] pos) (sFor it g b) := PS_imp (ps_for hp hc hi hg hb hs) fun E σ H ⟨w, e1, e2, rl, q⟩ => by
  refine ⟨w, e1, e2, rl, POST.mono q.of fun ds w1 s1 m1 r1 ⟨_, _, _, q1⟩ J hJ => ?_⟩
  obtain ⟨hz, G, Y, hw, hY⟩ := hJ
  refine for_it hw (fun i σ H => ∃ w2 : Ws, w2.σ = σ ∧ w2.H = H ∧ Mono w1 w2 ∧ RelC X.K C w2 ∧ POSTS X.K C w2 (sForL g b (ds.drop i) w2.ε w2.S) E)
    ⟨w1, s1.trans e1, rfl, Mono.refl w1, r1, by simpa using q1⟩ (fun i σ H _ ⟨w2, _, h2, m2, r2, _⟩ => h2 ▸ (hY w2 m2 r2).1) (fun i x σ2 H2 H3 hi hP hy => ?_) (fun σ2 H2 hP => ?_)
  · obtain ⟨w2, h1, h2, m2, r2, q2⟩ := hP
    obtain ⟨hd, hdr⟩ := drop_at hi
    subst h2
    obtain ⟨w3, k1, k2, k3, k4, m3, r3, hx⟩ := (hY w2 m2 r2).2 i _ x H3 hd hy
    refine ⟨w3, ds[i], k2.trans h1, k1, r3, hx, ?_⟩
    rw [hdr] at q2
    unfold sForL at q2
    rw [k3, k4]
    cases hr : g ds[i] w2.ε w2.S with
    | ok a ε S =>
      rw [hr] at q2
      intro w4 j1 j2 _ m4 r4
      refine ⟨w4, rfl, rfl, r4, ?_⟩
      have m14 : Mono w1 w4 := (m2.trans m3).trans m4
      have m24 : Mono w2 w4 := m3.trans m4
      rw [j1, j2]
      dsimp only at q2
      cases hb2 : b ε S with
      | nx ε2 S2 =>
        rw [hb2] at q2
        intro w5 i1 i2 m5 r5
        refine ⟨w5, rfl, rfl, m14.trans m5, r5, ?_⟩
        rw [i1, i2]
        exact POSTS.lift (m24.trans m5) q2
      | ct ε2 S2 =>
        rw [hb2] at q2
        intro w5 i1 i2 m5 r5
        refine ⟨w5, rfl, rfl, m14.trans m5, r5, ?_⟩
        rw [i1, i2]
        exact POSTS.lift (m24.trans m5) q2
      | bk ε2 S2 =>
        rw [hb2] at q2
        intro w5 i1 i2 m5 r5
        exact q2 w5 i1 i2 (m24.trans m5) r5
      | rt d ε2 S2 =>
        rw [hb2] at q2
        intro w5 i1 i2 m5 r5
        exact q2 w5 i1 i2 (m24.trans m5) r5
      | ex c ε2 S2 =>
        rw [hb2] at q2
        intro w5 i1 i2 m5 r5
        exact q2 w5 i1 i2 (m24.trans m5) r5
      | stuck => rw [hb2] at q2; exact q2
    | ex c ε S => rw [hr] at q2; exact False.elim q2
    | stuck => rw [hr] at q2; exact False.elim q2
  · obtain ⟨w2, h1, h2, m2, r2, q2⟩ := hP
    rw [List.drop_length] at q2
    subst h1; subst h2
    exact q2 w2 rfl rfl (Mono.refl w2) r2

/-! ### while: at most n turns -/
def sWhileN (c : ES Bool) (b : SS) : Nat → SS
  | 0, _, _ => .stuck
  | n + 1, ε, S => (c ε S).toS fun k ε S => if k then (match b ε S with
      | .nx ε S => sWhileN c b n ε S
      | .ct ε S => sWhileN c b n ε S
      | .bk ε S => .nx ε S
      | .rt d ε S => .rt d ε S
      | .ex c ε S => .ex c ε S
      | .stuck => .stuck) else .nx ε S
theorem ds_while (n : Nat) {c : ES Bool} (hp : PassesOwn (model X.prog X.w) X.A X.env X.xe) (hc : DT X C e c) (hb : DSs X C body b) : DS X C (.While e body [] pos) (sWhileN c b n) := PS_imp (ps_while hp hc hb) fun E σ H ⟨w, e1, e2, rl, q⟩ => by
  refine ⟨fun m σ H => ∃ w2 : Ws, w2.σ = σ ∧ w2.H = H ∧ RelC X.K C w2 ∧ POSTS X.K C w2 (sWhileN c b m w2.ε w2.S) E, ⟨n, w, e1, e2, rl, q⟩, fun m σ2 H2 ⟨w2, h1, h2, r2, q2⟩ => ?_⟩
  cases m with
  | zero => exact False.elim q2
  | succ m =>
    refine ⟨w2, h1, h2, r2, POST.mono q2.of fun k w3 s3 m3 r3 ⟨_, _, _, q3⟩ => ?_⟩
    cases k with
    | false =>
      rw [if_neg Bool.false_ne_true] at q3 ⊢
      have := q3 w3 rfl rfl (Mono.refl w3) r3
      rw [s3, h1] at this
      exact this
    | true =>
      rw [if_pos rfl] at q3 ⊢
      refine ⟨fun σ H => ∃ w2 : Ws, w2.σ = σ ∧ w2.H = H ∧ RelC X.K C w2 ∧ POSTS X.K C w2 (sWhileN c b m w2.ε w2.S) E, fun σ' H' h => ⟨m, Nat.lt_succ_self m, h⟩, w3, s3.trans h1, rfl, r3, ?_⟩
      cases hb2 : b w3.ε w3.S with
      | nx ε2 S2 =>
        rw [hb2] at q3
        intro w5 i1 i2 m5 r5
        refine ⟨w5, rfl, rfl, r5, ?_⟩
        rw [i1, i2]
        exact POSTS.lift m5 q3
      | ct ε2 S2 =>
        rw [hb2] at q3
        intro w5 i1 i2 m5 r5
        refine ⟨w5, rfl, rfl, r5, ?_⟩
        rw [i1, i2]
        exact POSTS.lift m5 q3
      | bk ε2 S2 => rw [hb2] at q3; exact q3
      | rt d ε2 S2 => rw [hb2] at q3; exact q3
      | ex c ε2 S2 => rw [hb2] at q3; exact q3
      | stuck => rw [hb2] at q3; exact q3

/-! ### comprehensions -/
def wipeE (ε : EV) : List Nat → EV
  | [] => ε
  | v :: vs => (wipeE ε vs).set v none
def backE (ε ε' : EV) : List Nat → EV
  | [] => ε'
  | v :: vs => (backE ε ε' vs).set v (match ε[v]? with
    | some (some (.val d)) => some (.val d)
    | _ => none)
def R.noex {α : Type} : R α → R α
  | .ex _ _ _ => .stuck
  | r => r
def lcL (g : GS) (t : ES Bool) (f : ES D) (vs : List Nat) : List D → ES (List D)
  | [], ε, S => .ok [] ε S
  | d :: ds, ε, S => (g d ε S).bind fun _ ε S => (t ε S).bind fun k ε S =>
    if k then (f ε S).bind fun y ε S => (lcL g t f vs ds (wipeE ε vs) S).bind fun ys ε S => .ok (y :: ys) ε S
    else lcL g t f vs ds (wipeE ε vs) S
def eComp (it : ES (List D)) (g : GS) (t : ES Bool) (f : ES D) (vs : List Nat) : ES MO := fun ε S =>
  (it ε S).bind fun ds ε1 S => (R.noex (lcL g t f vs ds (wipeE ε1 vs) S)).bind fun ys ε2 S => .ok (.lst ys) (backE ε1 ε2 vs) S
/-- the tests of a clause -/
def DTs (X : Cx) (C : Cfg) (ifs : List Expr) (t : ES Bool) : Prop := PTs X ifs (tT X.K C t)
def tYesD : ES Bool := fun ε S => .ok true ε S
theorem PTs_imp {ifs : List Expr} {t t' : TT} (h : PTs X ifs t) (i : ∀ σ H Q, t' σ H Q → t σ H Q) : PTs X ifs t' := ⟨fun pins s σ H Q I q => h.run pins s σ H Q I (i σ H Q q)⟩
theorem dts_nil : DTs X C [] tYesD := PTs_imp pts_nil fun σ H Q ⟨w, e1, e2, rl, q⟩ => by
  subst e2
  exact POST.now rl q
theorem dts_one {c : Expr} {t : ES Bool} (h : DT X C c t) : DTs X C [c] t := pts_one h
end
theorem wipeE_length (ε : EV) : ∀ vs : List Nat, (wipeE ε vs).length = ε.length
  | [] => rfl
  | v :: vs => by unfold wipeE; rw [List.length_set, wipeE_length ε vs]
theorem wipeE_some {ε : EV} {i : Nat} {x : SV} : ∀ {vs : List Nat}, (wipeE ε vs)[i]? = some (some x) → ε[i]? = some (some x) ∧ i ∉ vs
  | [], h => ⟨h, by simp⟩
  | v :: vs, h => by
    unfold wipeE at h
    rcases set_cases h with ⟨_, z, _⟩ | ⟨hv, h⟩
    · cases z
    · obtain ⟨h1, h2⟩ := wipeE_some h
      exact ⟨h1, by simp only [List.mem_cons, not_or]; exact ⟨hv, h2⟩⟩
theorem wipe_other {σ : L2.St} {i : Nat} : ∀ {vs : List Nat}, i ∉ vs → (wipe σ vs)[i]? = σ[i]?
  | [], _ => rfl
  | v :: vs, h => by
    unfold wipe
    rw [List.getElem?_set_ne fun z => h (by simp [z])]
    exact wipe_other fun z => h (List.mem_cons_of_mem _ z)
section
variable {K : PySem.W.Frag} {C : Cfg}
/-- slots of which less is known -/
theorem RelC.weak {w w' : Ws} (r : RelC K C w) (hZ : w'.Z = w.Z) (hρ : w'.ρ = w.ρ) (hS : w'.S = w.S) (hH : w'.H = w.H) (hl : w'.ε.length = w'.σ.length)
    (h : ∀ (i : Nat) (x : SV), w'.ε[i]? = some (some x) → w.ε[i]? = some (some x) ∧ w'.σ[i]? = w.σ[i]?) : Mono w w' ∧ RelC K C w' := by
  have m : Mono w w' := by
    refine ⟨fun a z => by rw [hZ]; exact z, ⟨[], by rw [hρ]; simp⟩, fun b o z _ _ _ => by rw [hH]; exact z, fun a z => .inl (by rw [← hZ]; exact z), fun p ⟨i, x, h1, h2⟩ => ?_, fun p z => .inl (by rw [← hρ]; exact z), fun b z => by rw [← hH]; exact z⟩
    obtain ⟨k1, k2⟩ := h i _ h1
    exact .inl ⟨i, x, k1, by rw [← k2]; exact h2⟩
  refine ⟨m, ⟨⟨hl, fun i d z => ?_, fun i x z => ?_, fun i j x y p h1 h2 h3 h4 => ?_, by rw [hS, hρ]; exact r.r.slen, fun n x p h1 h2 => ?_, by rw [hρ]; exact r.r.nd, fun a z => ?_, fun a z => ?_⟩, r.m.trans m, by rw [hH]; exact r.sz⟩⟩
  · obtain ⟨k1, k2⟩ := h i _ z
    obtain ⟨v, e1, e2⟩ := r.r.val i d k1
    exact ⟨v, k2.trans e1, Rep.mono (m.le r.r) d v e2⟩
  · obtain ⟨k1, k2⟩ := h i _ z
    obtain ⟨p, e1, e2, e3, e4⟩ := r.r.own i x k1
    exact ⟨p, k2.trans e1, MOk.mono (m.le r.r) (fun o z => by rw [hH]; exact z) e2, by rw [hρ]; exact e3, by rw [hZ]; exact e4⟩
  · obtain ⟨k1, k2⟩ := h i _ h1
    obtain ⟨k3, k4⟩ := h j _ h2
    exact r.r.apart i j x y p k1 k3 (k2 ▸ h3) (k4 ▸ h4)
  · rw [hS] at h1
    rw [hρ] at h2
    exact MOk.mono (m.le r.r) (fun o z => by rw [hH]; exact z) (r.r.sto n x p h1 h2)
  · rw [hZ] at z
    rw [hρ]
    exact r.r.zfree a z
  · rw [hZ] at z
    rw [hH]
    exact r.r.zin a z
theorem RelC.wipe {w : Ws} (r : RelC K C w) (vs : List Nat) : Mono w { w with ε := wipeE w.ε vs, σ := L2.wipe w.σ vs } ∧ RelC K C { w with ε := wipeE w.ε vs, σ := L2.wipe w.σ vs } :=
  r.weak rfl rfl rfl rfl (by show (wipeE w.ε vs).length = (L2.wipe w.σ vs).length; rw [wipeE_length, wipe_length]; exact r.r.len) fun i x h => by
    have h : (wipeE w.ε vs)[i]? = some (some x) := h
    obtain ⟨h1, h2⟩ := wipeE_some h
    exact ⟨h1, wipe_other h2⟩
end
end DL
namespace DL
open L2 PyProof.Rows PySem PySem.Spec
variable [TabT]
/-- no exception is let out -/
abbrev Cfg.no (C : Cfg) : Cfg := { C with W := fun _ _ _ _ => False }
theorem RelC.no {K : PySem.W.Frag} {C : Cfg} {w : Ws} (r : RelC K C w) : RelC K C.no w := ⟨r.r, r.m, r.sz⟩
theorem RelC.yes {K : PySem.W.Frag} {C : Cfg} {w : Ws} (r : RelC K C.no w) : RelC K C w := ⟨r.r, r.m, r.sz⟩
def LcFin (K : PySem.W.Frag) (C : Cfg) (w1 : Ws) (vs : List Nat) (P : MO → Ws → Prop) (r : R (List D)) (acc : List D) : Prop := match r with
  | .ok ys ε2 S2 => POST K C w1 (.ok (.lst (acc ++ ys)) (backE w1.ε ε2 vs) S2) P
  | _ => False
section
variable {K : PySem.W.Frag} {C : Cfg} {w1 : Ws} {vs : List Nat} {P : MO → Ws → Prop} {g : GS} {t : ES Bool} {f : ES D}
theorem LcFin.step {d : D} {ds : List D} {ε : EV} {S : Sto} {acc : List D} (h : LcFin K C w1 vs P (lcL g t f vs (d :: ds) ε S) acc) : ∃ ε1 S1 k ε2 S2, g d ε S = .ok () ε1 S1 ∧ t ε1 S1 = .ok k ε2 S2 ∧
    (k = false → LcFin K C w1 vs P (lcL g t f vs ds (wipeE ε2 vs) S2) acc) ∧ (k = true → ∃ y ε3 S3, f ε2 S2 = .ok y ε3 S3 ∧ LcFin K C w1 vs P (lcL g t f vs ds (wipeE ε3 vs) S3) (acc ++ [y])) := by
  unfold lcL at h
  cases hg : g d ε S with
  | ex c ε1 S1 => rw [hg] at h; exact False.elim h
  | stuck => rw [hg] at h; exact False.elim h
  | ok u ε1 S1 =>
    rw [hg] at h
    dsimp only [R.bind] at h
    cases ht : t ε1 S1 with
    | ex c ε2 S2 => rw [ht] at h; exact False.elim h
    | stuck => rw [ht] at h; exact False.elim h
    | ok k ε2 S2 =>
      rw [ht] at h
      dsimp only at h
      refine ⟨ε1, S1, k, ε2, S2, rfl, ht, fun hk => ?_, fun hk => ?_⟩
      · subst hk
        rw [if_neg Bool.false_ne_true] at h
        exact h
      · subst hk
        rw [if_pos rfl] at h
        cases hf : f ε2 S2 with
        | ex c ε3 S3 => rw [hf] at h; exact False.elim h
        | stuck => rw [hf] at h; exact False.elim h
        | ok y ε3 S3 =>
          rw [hf] at h
          dsimp only at h
          refine ⟨y, ε3, S3, rfl, ?_⟩
          cases hl : lcL g t f vs ds (wipeE ε3 vs) S3 with
          | ex c ε4 S4 => rw [hl] at h; exact False.elim h
          | stuck => rw [hl] at h; exact False.elim h
          | ok ys ε4 S4 =>
            rw [hl] at h
            dsimp only at h
            unfold LcFin at h ⊢
            dsimp only at h ⊢
            rw [List.append_assoc]
            exact h
theorem wipe_sam {σ σ' : L2.St} {us vs : List Nat} (h : Sam us σ σ') (hu : ∀ i ∈ us, i ∈ vs) : wipe σ' vs = wipe σ vs := by
  refine List.ext_getElem? fun j => ?_
  by_cases hj : j ∈ vs
  · have key : ∀ (τ : L2.St) (l : List Nat), j ∈ l → (wipe τ l)[j]? = if j < τ.length then some none else none := fun τ l => by
      induction l with
      | nil => intro z; cases z
      | cons v l ih =>
        intro z
        unfold wipe
        by_cases e : v = j
        · subst e
          by_cases hl : v < τ.length
          · rw [List.getElem?_set_self (by rw [wipe_length]; exact hl), if_pos hl]
          · rw [if_neg hl, List.getElem?_eq_none (by rw [List.length_set, wipe_length]; omega)]
        · rw [List.getElem?_set_ne e]
          exact ih ((List.mem_cons.mp z).resolve_left fun q => e q.symm)
    rw [key σ' vs hj, key σ vs hj, h.1]
  · rw [wipe_other hj, wipe_other hj]
    exact h.2 j fun z => hj (hu j z)
theorem Lone.next {w w' : Ws} {p : Addr} {o : HO} (l : Lone w p) (hp : w.H p = some o) (m : Mono w w') (nt : NT o := by exact True.intro) : Lone w' p ∧ w'.H p = some o := by
  refine ⟨⟨fun z => ?_, fun z => ?_, fun z => ?_⟩, m.keep p o hp l.ρ l.own nt⟩
  · rcases m.zold p z with h | h | h
    · exact l.z h
    · rw [hp] at h; cases h
    · exact l.own h
  · rcases m.rho p z with h | h
    · exact l.ρ h
    · rw [hp] at h; cases h
  · rcases m.own p z with h | h
    · exact l.own h
    · rw [hp] at h; cases h
/-- a lone object is changed -/
theorem RelC.alter {w0 w : Ws} {p : Addr} {o o' : HO} (r : RelC K C w) (r0 : RelC K C w0) (m0 : Mono w0 w) (h0 : w0.H p = none) (l : Lone w p) (hp : w.H p = some o) (no : ¬ Fixed o) (so : SzOk o') :
    RelC K C (w.lay p o') ∧ Mono w0 (w.lay p o') ∧ Le w (w.lay p o') ∧ Lone (w.lay p o') p := by
  have ne : ∀ b, b ≠ p → (w.lay p o').H b = w.H b := fun b hb => upd_ne hb
  have le : Le w (w.lay p o') := by
    refine ⟨fun _ h => h, ⟨[], by simp⟩, fun b u h f => ?_⟩
    rw [ne b fun z => ?_]
    · exact h
    · subst z
      rw [hp] at h; cases h
      exact f.elim l.z no
  have m1 : Mono w0 (w.lay p o') := by
    refine ⟨m0.z, m0.pre, fun b u h h1 h2 nt => ?_, m0.zold, m0.own, m0.rho, fun b h => ?_⟩
    · rw [ne b (ne_of_none h h0)]
      exact m0.keep b u h h1 h2 nt
    · by_cases e : b = p
      · subst e; exact h0
      · rw [ne b e] at h
        exact m0.dom b h
  refine ⟨⟨r.r.step le rfl rfl rfl rfl (fun a h => .inl h) (fun a u h e => ?_), r0.m.trans m1, r.sz.put so (.inr ⟨o, hp, no, r.sz.nt hp (r0.sz.fresh h0)⟩)⟩, m1, le, ⟨l.z, l.ρ, l.own⟩⟩
  rw [ne a fun z => ?_]
  · exact e
  · subst z
    exact h.elim l.ρ l.own
theorem Reps.append {Z : Addr → Prop} {ρ : List Addr} {H : Hp} : ∀ {ds es : List D} {vs ws : List V}, Reps K Z ρ H ds vs → Reps K Z ρ H es ws → Reps K Z ρ H (ds ++ es) (vs ++ ws)
  | [], es, vs, ws, h, h2 => by
    simp only [DL.Reps] at h
    subst h
    exact h2
  | d :: ds, es, vs, ws, h, h2 => by
    simp only [DL.Reps] at h
    obtain ⟨v, us, e, h1, h3⟩ := h
    subst e
    show DL.Reps K Z ρ H (d :: (ds ++ es)) (v :: (us ++ ws))
    simp only [DL.Reps]
    exact ⟨v, us ++ ws, rfl, h1, Reps.append h3 h2⟩
theorem Reps.one {Z : Addr → Prop} {ρ : List Addr} {H : Hp} {d : D} {v : V} (h : Rep K Z ρ H d v) : Reps K Z ρ H [d] [v] := by
  simp only [DL.Reps]
  exact ⟨v, [], rfl, h, rfl⟩
/-- back to the slots as they stood around the comprehension -/
theorem backE_some {ε ε' : EV} {i : Nat} {x : SV} : ∀ {vs : List Nat}, (backE ε ε' vs)[i]? = some (some x) → (i ∈ vs ∧ ε[i]? = some (some x) ∧ ∃ d, x = .val d) ∨ (i ∉ vs ∧ ε'[i]? = some (some x))
  | [], h => .inr ⟨by simp, h⟩
  | v :: vs, h => by
    unfold backE at h
    rcases set_cases h with ⟨e, z, _⟩ | ⟨hv, h⟩
    · subst e
      left
      refine ⟨List.mem_cons_self, ?_⟩
      revert z
      split
      · rename_i d hd
        intro z
        have z' : x = .val d := Option.some.inj z
        rw [z']
        exact ⟨hd, d, rfl⟩
      · intro z
        cases z
    · rcases backE_some h with ⟨h1, h2⟩ | ⟨h1, h2⟩
      · exact .inl ⟨List.mem_cons_of_mem _ h1, h2⟩
      · exact .inr ⟨by simp only [List.mem_cons, not_or]; exact ⟨hv, h1⟩, h2⟩
theorem backE_length {ε ε' : EV} : ∀ vs : List Nat, (backE ε ε' vs).length = ε'.length
  | [] => rfl
  | v :: vs => by unfold backE; rw [List.length_set, backE_length vs]
theorem RelC.back {w w' : Ws} (r : RelC K C w) (m : Mono w w') (r' : RelC K C w') (hσ : w'.σ = L2.wipe w.σ vs) :
    RelC K C { w' with ε := backE w.ε w'.ε vs, σ := w.σ } ∧ Mono w { w' with ε := backE w.ε w'.ε vs, σ := w.σ } := by
  have own : ∀ p, Own (backE w.ε w'.ε vs) w.σ p → Own w'.ε w'.σ p := fun p ⟨i, x, h1, h2⟩ => by
    rcases backE_some h1 with ⟨_, _, d, z⟩ | ⟨h3, h4⟩
    · cases z
    · exact ⟨i, x, h4, by rw [hσ, wipe_other h3]; exact h2⟩
  have m2 : Mono w { w' with ε := backE w.ε w'.ε vs, σ := w.σ } := ⟨m.z, m.pre, m.keep, m.zold, fun p h => m.own p (own p h), m.rho, m.dom⟩
  refine ⟨⟨⟨?_, fun i d h => ?_, fun i x h => ?_, fun i j x y p h1 h2 h3 h4 => ?_, r'.r.slen, r'.r.sto, r'.r.nd, r'.r.zfree, r'.r.zin⟩, r.m.trans m2, r'.sz⟩, m2⟩
  · show (backE w.ε w'.ε vs).length = w.σ.length
    rw [backE_length, r'.r.len, hσ, wipe_length]
  · rcases backE_some h with ⟨h1, h2, _⟩ | ⟨h3, h4⟩
    · obtain ⟨v, e1, e2⟩ := r.r.val i d h2
      exact ⟨v, e1, Rep.mono (m.le r.r) d v e2⟩
    · obtain ⟨v, e1, e2⟩ := r'.r.val i d h4
      rw [hσ, wipe_other h3] at e1
      exact ⟨v, e1, e2⟩
  · rcases backE_some h with ⟨_, _, d, z⟩ | ⟨h3, h4⟩
    · cases z
    · obtain ⟨p, e1, e2⟩ := r'.r.own i x h4
      rw [hσ, wipe_other h3] at e1
      exact ⟨p, e1, e2⟩
  · rcases backE_some h1 with ⟨_, _, d, z⟩ | ⟨k1, h1⟩
    · cases z
    · rcases backE_some h2 with ⟨_, _, d, z⟩ | ⟨k2, h2⟩
      · cases z
      · exact r'.r.apart i j x y p h1 h2 (by rw [hσ, wipe_other k1]; exact h3) (by rw [hσ, wipe_other k2]; exact h4)
end

section
variable {X : Cx} {C : Cfg} {elt tg iter : Expr} {ifs : List Expr} {scope : Scope} {own : List (Str × Nat)} {pos : Pos} {it : ES (List D)} {g : GS} {t : ES Bool} {f : ES D} {us : List Nat}
theorem lc_of (hu : ∀ i ∈ us, i ∈ own.map (·.2)) : ∀ σ H Q, tF X.K C (eComp it g t f (own.map (·.2))) σ H Q → tLc (tI X.K C it) (tGG X.K C.no us g) (tT X.K C.no t) (tE X.K C.no f) (own.map (·.2)) σ H Q := fun σ H Q ⟨w, e1, e2, rl, q⟩ => by
  subst e1; subst e2
  generalize hvs : own.map (·.2) = vs at hu q ⊢
  refine ⟨w, rfl, rfl, rl, POST.mono (POST.bind q) fun ds w1 s1 m1 r1 ⟨_, _, _, q1⟩ J hJ B hB => ?_⟩
  obtain ⟨hz, G, Y, hw, hY⟩ := hJ
  have h0 : LcFin X.K C w1 vs (qF X.K w.H Q) (lcL g t f vs ds (wipeE w1.ε vs) w1.S) [] := by
    revert q1
    cases lcL g t f vs ds (wipeE w1.ε vs) w1.S with
    | ok ys ε2 S2 => exact fun q1 => q1
    | ex c ε2 S2 => exact fun q1 => q1
    | stuck => exact fun q1 => q1
  rw [← s1]
  refine lc_it hw (fun i H' => ∃ (w2 : Ws) (acc : List D) (xs : List V), w2.H = H' ∧ w2.σ = wipe w1.σ vs ∧ Mono w1 w2 ∧ RelC X.K C w2 ∧ H' B = some (.lst xs) ∧ w2.Reps X.K acc xs ∧ xs.length ≤ i ∧ Lone w2 B ∧
    LcFin X.K C w1 vs (qF X.K w.H Q) (lcL g t f vs (ds.drop i) w2.ε w2.S) acc) ?_ (fun i H' _ ⟨w2, _, _, h2, _, m2, r2, _⟩ => h2 ▸ (hY w2 m2 r2).1) (fun i x H2 H3 hi hP hy => ?_) (fun H2 hP => ?_)
  · have ra : RelC X.K C (w1.lay B (.lst [])) := r1.lay hB (Nat.zero_le _)
    obtain ⟨mw, rw'⟩ := ra.wipe vs
    refine ⟨_, [], [], rfl, rfl, (Mono.lay hB).trans mw, rw', upd_same, by simp only [Ws.Reps, DL.Reps], Nat.zero_le _, ?_, h0⟩
    have l := Lone.of (o := HO.lst []) r1 hB
    refine ⟨l.z, l.ρ, fun ⟨i, x, h1, h2⟩ => ?_⟩
    have h1 : (wipeE w1.ε vs)[i]? = some (some (.own x)) := h1
    obtain ⟨h1, hn⟩ := wipeE_some h1
    have h2 : (wipe w1.σ vs)[i]? = _ := h2
    rw [wipe_other hn] at h2
    exact l.own ⟨i, x, h1, h2⟩
  · obtain ⟨w2, acc, xs, h2, hσ2, m2, r2, hBx, hacc, hlen, hl2, hfin⟩ := hP
    obtain ⟨hd, hdr⟩ := drop_at hi
    subst h2
    obtain ⟨w3, k1, k2, k3, k4, m3, r3, hx⟩ := (hY w2 m2 r2).2 i _ x H3 hd hy
    rw [hdr] at hfin
    obtain ⟨ε4, S4, k, ε5, S5, hg, ht, hF, hT⟩ := hfin.step
    obtain ⟨l3, hB3⟩ := hl2.next hBx m3
    refine ⟨w3, ds[i], k2.trans hσ2, k1, r3.no, hx, ?_⟩
    rw [k3, k4, hg]
    intro w4 j1 j2 sm m4 r4
    obtain ⟨l4, hB4⟩ := l3.next hB3 m4
    refine ⟨?_, w4, rfl, rfl, r4, ?_⟩
    · have e := wipe_sam sm hu
      rw [k2, hσ2] at e
      exact e.trans (wipe_sam (us := vs) (vs := vs) ⟨wipe_length _ _, fun j hj => wipe_other hj⟩ fun _ h => h)
    rw [j1, j2, ht]
    intro w5 i1 i2 i3 m5 r5
    obtain ⟨l5, hB5⟩ := l4.next hB4 m5
    have w5s : wipe w5.σ vs = wipe w1.σ vs := by
      rw [i3]
      have e := wipe_sam sm hu
      rw [k2, hσ2] at e
      exact e.trans (wipe_sam (us := vs) (vs := vs) ⟨wipe_length _ _, fun j hj => wipe_other hj⟩ fun _ h => h)
    have m25 : Mono w2 w5 := (m3.trans m4).trans m5
    cases k with
    | false =>
      rw [if_neg Bool.false_ne_true]
      obtain ⟨mw, rw'⟩ := r5.yes.wipe vs
      refine ⟨{ w5 with ε := wipeE w5.ε vs, σ := L2.wipe w5.σ vs }, acc, xs, rfl, w5s, (m2.trans m25).trans mw, rw', hB5, Reps.mono ((m25.trans mw).le r2.r) acc xs hacc, Nat.le_succ_of_le hlen, ?_, ?_⟩
      · exact (l5.next hB5 mw).1
      · have := hF rfl
        rw [← i1, ← i2] at this
        exact this
    | true =>
      rw [if_pos rfl]
      obtain ⟨y, ε6, S6, hf, hfin'⟩ := hT rfl
      refine ⟨w5, i3, rfl, r5, ?_⟩
      rw [i1, i2, hf]
      intro w6 n1 n2 n3 m6 r6 v hv
      obtain ⟨l6, hB6⟩ := l5.next hB5 m6
      have hz' : xs.length < sizeLine := by omega
      refine ⟨xs, hB6, hz', ?_⟩
      have m16 : Mono w1 w6 := (m2.trans m25).trans m6
      have m26 : Mono w2 w6 := m25.trans m6
      obtain ⟨r7, m17, le7, l7⟩ := RelC.alter (o' := .lst (xs ++ [v])) r6.yes r1 m16 hB l6 hB6 (fun z => z) (by show (xs ++ [v]).length ≤ _; rw [List.length_append]; exact hz')
      obtain ⟨mw, rw'⟩ := r7.wipe vs
      refine ⟨{ (w6.lay B (.lst (xs ++ [v]))) with ε := wipeE w6.ε vs, σ := L2.wipe w6.σ vs }, acc ++ [y], xs ++ [v], rfl, ?_, m17.trans mw, rw', upd_same, ?_, ?_, (l7.next upd_same mw).1, ?_⟩
      · show wipe w6.σ vs = _
        rw [n3]; exact w5s
      · have le : Le w2 { (w6.lay B (.lst (xs ++ [v]))) with ε := wipeE w6.ε vs, σ := wipe w6.σ vs } := ((m26.le r2.r).trans le7).trans (mw.le r7.r)
        exact Reps.append (Reps.mono le acc xs hacc) (Reps.one (Rep.mono (le7.trans (mw.le r7.r)) y v hv))
      · rw [List.length_append]
        exact Nat.succ_le_succ hlen
      · show LcFin X.K C w1 vs _ (lcL g t f vs (ds.drop (i + 1)) (wipeE w6.ε vs) w6.S) _
        rw [n1, n2]
        exact hfin'
  · obtain ⟨w2, acc, xs, h2, hσ2, m2, r2, hBx, hacc, hlen, hl2, hfin⟩ := hP
    rw [List.drop_length] at hfin
    subst h2
    have hfin : POST X.K C w1 (.ok (.lst (acc ++ [])) (backE w1.ε w2.ε vs) w2.S) (qF X.K w.H Q) := hfin
    rw [List.append_nil] at hfin
    obtain ⟨r3, m3⟩ := RelC.back r1 m2 r2 hσ2
    refine POST.at hfin m3 r3 rfl rfl rfl B (m1.dom B hB) ⟨hl2.z, hl2.ρ, fun h => ?_⟩ ⟨xs, hBx, hacc⟩ (fun _ _ z => nomatch z)
    rcases m3.own B h with h | h
    · obtain ⟨o, e, _⟩ := r1.r.ownMu h
      rw [hB] at e; cases e
    · obtain ⟨i, x, h1, h2⟩ := ‹Own _ _ B›
      rcases backE_some h1 with ⟨_, _, d, z⟩ | ⟨h3, h4⟩
      · cases z
      · exact hl2.own ⟨i, x, h4, by rw [hσ2, wipe_other h3]; exact h2⟩
theorem df_comp (hc : X.calm = true) (hN : X.N.Nodup) (hi : DI X C tg iter it) (ok : BlkOk X.N X.env.scope scope own)
    (hg : ∀ (s : Shared) (H : Hp) (C' : Addr) (cl : List (Str × Addr)) (fp : List Addr), DG (X.blk s H scope (compEnvC scope cl C' X.env) fp) C.no us tg g)
    (ht : ∀ (s : Shared) (H : Hp) (C' : Addr) (cl : List (Str × Addr)) (fp : List Addr), DTs (X.blk s H scope (compEnvC scope cl C' X.env) fp) C.no ifs t)
    (he : ∀ (s : Shared) (H : Hp) (C' : Addr) (cl : List (Str × Addr)) (fp : List Addr), DE (X.blk s H scope (compEnvC scope cl C' X.env) fp) C.no elt f)
    (hu : ∀ i ∈ us, i ∈ own.map (·.2) := by decide) (hs : ∀ x, foldedSetIterable iter X.env x = pure x := by intro _; rfl) : DF X C (.ListComp elt [⟨tg, iter, ifs, 0⟩] scope pos) (eComp it g t f (own.map (·.2))) :=
  PE_imp (pe_lc (wi := tI X.K C it) (g := tGG X.K C.no us g) (tt := tT X.K C.no t) (te := tE X.K C.no f) hc hN hi ok hg ht he hs) (lc_of hu)
end
end DL
namespace DL
open L2 PyProof.Rows PySem PySem.Spec
variable [TabT]

/-! ### what a def comes to -/
inductive FR where
  | ok (d : D) (S : Sto) | ex (c : Nat) (S : Sto) | stuck
abbrev FS := List D → Sto → FR
abbrev Ws.bare (w : Ws) : Ws := { w with ε := [], σ := [] }
/-- the promise «as F says» -/
def spOf (K : PySem.W.Frag) (exc : Nat → Value) (n : Nat) (F : FS) : Sp := fun vs H Q E => ∃ (w : Ws) (ds : List D), w.ε = [] ∧ w.σ = [] ∧ w.H = H ∧ Rel K w ∧ (SzH w.H) ∧ ds.length = n ∧ w.Reps K ds vs ∧
  match F ds w.S with
  | .ok d S => ∀ w' : Ws, w'.ε = [] → w'.σ = [] → w'.S = S → Mono w w' → Rel K w' → (SzH w'.H) → ∀ v, w'.Rep K d v → Q v w'.H
  | .ex c S => ∀ w' : Ws, w'.ε = [] → w'.σ = [] → w'.S = S → Mono w w' → Rel K w' → (SzH w'.H) → E (exc c) none w'.H
  | .stuck => False
section
variable {K : PySem.W.Frag} {C : Cfg}
theorem own_nil {σ : L2.St} {p : Addr} : ¬ Own [] σ p := fun ⟨i, m, h, _⟩ => by simp at h
theorem Rel.bare {w : Ws} (r : Rel K w) : Rel K w.bare :=
  ⟨rfl, fun i d h => by simp at h, fun i m h => by simp at h, fun i j m n p h => by simp at h, r.slen, r.sto, r.nd, r.zfree, r.zin⟩
/-- behind a call -/
theorem RelC.call {w w' : Ws} (r : RelC K C w) (m : Mono w.bare w') (r' : Rel K w') (sz : SzH w'.H) :
    Mono w { w' with ε := w.ε, σ := w.σ } ∧ RelC K C { w' with ε := w.ε, σ := w.σ } := by
  have kp : ∀ b o, w.H b = some o → b ∉ w.ρ → NT o → w'.H b = some o := fun b o h h1 nt => m.keep b o h h1 own_nil nt
  have m2 : Mono w { w' with ε := w.ε, σ := w.σ } := by
    refine ⟨m.z, m.pre, fun b o h h1 _ nt => kp b o h h1 nt, fun a h => ?_, fun p h => .inl h, m.rho, m.dom⟩
    rcases m.zold a h with h | h | h
    · exact .inl h
    · exact .inr (.inl h)
    · exact (own_nil h).elim
  refine ⟨m2, ⟨⟨r.r.len, fun i d h => ?_, fun i x h => ?_, r.r.apart, r'.slen, r'.sto, r'.nd, r'.zfree, r'.zin⟩, r.m.trans m2, sz⟩⟩
  · obtain ⟨v, e1, e2⟩ := r.r.val i d h
    exact ⟨v, e1, Rep.mono (m2.le r.r) d v e2⟩
  · obtain ⟨p, e1, e2, e3, e4⟩ := r.r.own i x h
    obtain ⟨o, ho, _⟩ := e2.mu
    refine ⟨p, e1, MOk.mono (m2.le r.r) (fun u hu => kp p u hu e3 (let ⟨_, k, n⟩ := e2.mt; by rw [k] at hu; cases hu; exact n)) e2, fun z => ?_, fun z => ?_⟩
    · rcases m.rho p z with q | q
      · exact e3 q
      · have q : w.H p = none := q
        rw [ho] at q; cases q
    · rcases m.zold p z with q | q | q
      · exact e4 q
      · have q : w.H p = none := q
        rw [ho] at q; cases q
      · exact own_nil q
end
def eCall (F : FS) (fa : ES (List D)) : ES D := fun ε S => (fa ε S).bind fun ds ε S => match F ds S with
  | .ok d S => .ok d ε S
  | .ex c S => .ex c ε S
  | .stuck => .stuck
section
variable {X : Cx} {C : Cfg} {F : FS} {fa : ES (List D)} {n : Nat}
theorem call_of {sp : Sp} (hsp : ∀ vs H Q E, spOf X.K C.exc n F vs H Q E → sp vs H Q E) {w : Ws} {ds : List D} {vs : List V} {Q : VK} (r : RelC X.K C w) (hn : ds.length = n) (hv : w.Reps X.K ds vs)
    (q : POST X.K C w ((match F ds w.S with | .ok d S => .ok d w.ε S | .ex c S => .ex c w.ε S | .stuck => .stuck : R D)) (qE X.K Q)) : sp vs w.H Q (WE C.W w.σ) := by
  refine hsp vs w.H Q _ ⟨w.bare, ds, rfl, rfl, rfl, r.r.bare, r.sz, hn, hv, ?_⟩
  show match F ds w.S with
    | .ok d S => _
    | .ex c S => _
    | .stuck => False
  cases hF : F ds w.S with
  | ok d S =>
    rw [hF] at q
    intro w' e1 e2 e3 m r' sz v hv'
    obtain ⟨m2, r2⟩ := r.call m r' sz
    have q2 := POST.at q m2 r2 rfl e3 rfl
    exact q2 v hv'
  | ex c S =>
    rw [hF] at q
    intro w' e1 e2 e3 m r' sz
    obtain ⟨m2, r2⟩ := r.call m r' sz
    exact q { w' with ε := w.ε, σ := w.σ } rfl e3 rfl m2 r2
  | stuck => rw [hF] at q; exact q
variable {k : Nat} {f : Addr} {fd : FuncData} {ps : List Str} {x : Str} {p pos : Pos} {e : Expr} {es : List Expr}
/-- f(e, ..) -/
theorem de_call (tk : Takes X C.W) (G : FnOk X.prog X.w X.K X.mg X.base (L2.CX X.prog X.w) k f fd ps (spOf X.K C.exc n F)) (hr : Room k X.A) (hm : X.mg x = some (.ref f)) (hk : PySem.W.keepIn X.K (.ref f) = true) (hb : Binds X.K fd ps []) (ha : DA X C (e :: es) fa)
    (hl : ∀ (ε : EV) (S : Sto) ds ε' S', fa ε S = .ok ds ε' S' → ds.length = n) (hg : Gl X x := by rfl) (hdb : (x == ("__debug__" : Str)) = false := by decide) (he : starEach (e :: es) X.env = (false, eval e X.env) :: starEach es X.env := by rfl) (hpl : (backTo pos (starEach es X.env)).any (·.1) = false := by rfl) :
    DE X C (.Call (.Name x p) (e :: es) [] pos) (eCall F fa) := PE_imp (pe_callS G hr hg hm hk hb (fun σ => passAt tk σ) ha hdb he hpl) fun σ H Q ⟨w, e1, e2, rl, q⟩ => by
  subst e1; subst e2
  refine ⟨w, rfl, rfl, rl, ?_⟩
  unfold eCall at q
  cases hr : fa w.ε w.S with
  | ok ds ε S =>
    rw [hr] at q
    intro w1 k1 k2 k3 m1 r1 vs hv
    have hn := hl _ _ _ _ _ hr
    have q' : POST X.K C w1 ((match F ds w1.S with | .ok d S => .ok d w1.ε S | .ex c S => .ex c w1.ε S | .stuck => .stuck : R D)) (qE X.K Q) := by
      rw [k1, k2]
      exact POST.lift m1 k3 q
    have := call_of (fun _ _ _ _ h => h) r1 hn hv q'
    rw [k3] at this
    exact this
  | ex c ε S => rw [hr] at q; exact q
  | stuck => rw [hr] at q; exact q
theorem aNil_len (ε : EV) (S : Sto) ds ε' S' : aNil ε S = .ok ds ε' S' → ds.length = 0 := fun h => by
  unfold aNil at h
  cases h; rfl
theorem aCons_len {f : ES D} {g : ES (List D)} {n : Nat} (hg : ∀ (ε : EV) (S : Sto) ds ε' S', g ε S = .ok ds ε' S' → ds.length = n) (ε : EV) (S : Sto) ds ε' S' : aCons f g ε S = .ok ds ε' S' → ds.length = n + 1 := fun h => by
  unfold aCons at h
  cases h1 : f ε S with
  | ok d ε1 S1 =>
    rw [h1] at h
    dsimp only [R.bind] at h
    cases h2 : g ε1 S1 with
    | ok es ε2 S2 =>
      rw [h2] at h
      dsimp only at h
      cases h
      rw [List.length_cons, hg _ _ _ _ _ h2]
    | ex c ε2 S2 => rw [h2] at h; cases h
    | stuck => rw [h2] at h; cases h
  | ex c ε1 S1 => rw [h1] at h; cases h
  | stuck => rw [h1] at h; cases h
end

/-! ### a def by its body -/
def startE (N : Nat) (ds : List D) : EV := ds.map (fun d => some (.val d)) ++ List.replicate (N - ds.length) none
def semOf (N : Nat) (b : SS) : FS := fun ds S => match b (startE N ds) S with
  | .nx _ S => .ok .non S
  | .rt d _ S => .ok d S
  | .ex c _ S => .ex c S
  | _ => .stuck
theorem start_some {N : List Str} {vs : List V} {i : Nat} {v : V} (h : vs[i]? = some v) : (L2.start N vs)[i]? = some (some v) := by
  unfold L2.start
  have hi := (List.getElem?_eq_some_iff.mp h).1
  rw [List.getElem?_append_left (by simpa using hi), List.getElem?_map, h]
  rfl
theorem startE_some {N : Nat} {ds : List D} {i : Nat} {x : SV} (h : (startE N ds)[i]? = some (some x)) : ∃ d, x = .val d ∧ ds[i]? = some d := by
  unfold startE at h
  by_cases hi : i < ds.length
  · rw [List.getElem?_append_left (by simpa using hi), List.getElem?_map, List.getElem?_eq_getElem hi] at h
    exact ⟨ds[i], by cases h; rfl, List.getElem?_eq_getElem hi⟩
  · rw [List.getElem?_append_right (by simpa using hi), List.getElem?_replicate] at h
    split at h <;> cases h
theorem Reps.get {K : PySem.W.Frag} {Z : Addr → Prop} {ρ : List Addr} {H : Hp} : ∀ {ds : List D} {vs : List V} {i : Nat} {d : D}, Reps K Z ρ H ds vs → ds[i]? = some d → ∃ v, vs[i]? = some v ∧ Rep K Z ρ H d v
  | [], _, _, _, _, e => by simp at e
  | d :: ds, vs, 0, d', h, e => by
    simp only [DL.Reps] at h
    obtain ⟨v, ws, e1, h1, _⟩ := h
    simp at e
    subst e; subst e1
    exact ⟨v, rfl, h1⟩
  | d :: ds, vs, i + 1, d', h, e => by
    simp only [DL.Reps] at h
    obtain ⟨v, ws, e1, _, h2⟩ := h
    subst e1
    obtain ⟨u, k1, k2⟩ := Reps.get (i := i) (d := d') h2 (by simpa using e)
    exact ⟨u, by simpa using k1, k2⟩
section
variable {P : Program} {w : World} {K : PySem.W.Frag} {mg : Str → Option Value} {base : Heap}
theorem relF_in {C : Cfg} {N : List Str} {w0 : Ws} {ds : List D} {vs : List V} (r : Rel K w0) (sz : SzH w0.H) (hv : w0.Reps K ds vs) (hC : C.w0 = { w0 with ε := startE N.length ds, σ := L2.start N vs }) :
    RelC K C { w0 with ε := startE N.length ds, σ := L2.start N vs } := by
  have hl := Reps.length hv
  refine ⟨⟨?_, fun i d h => ?_, fun i m h => ?_, fun i j m n p h => ?_, r.slen, r.sto, r.nd, r.zfree, r.zin⟩, by rw [hC]; exact Mono.refl _, sz⟩
  · show (startE N.length ds).length = (L2.start N vs).length
    unfold startE L2.start
    simp only [List.length_append, List.length_map, List.length_replicate, hl]
  · obtain ⟨d', e1, e2⟩ := startE_some h
    cases e1
    obtain ⟨v, k1, k2⟩ := Reps.get hv e2
    exact ⟨v, start_some k1, k2⟩
  · obtain ⟨d', e1, e2⟩ := startE_some h
    cases e1
  · obtain ⟨d', e1, e2⟩ := startE_some h
    cases e1
/-- a def by its body, its code object told -/
theorem def_code {x qual : Str} {st : Stmt} {f : Addr} {fd : FuncData} {N ps : List Str} {k : Nat} {sp : Sp} (F : Fun K x qual st f fd) (S : FnScope N ps (defScope st)) (len : ∀ vs H Q E, sp vs H Q E → vs.length = ps.length)
    (go : ∀ (cdv : Value) (A : Around) (outer : List PySem.Env) (s : Shared) (H : Hp) (vs : List V) (Q : VK) (E : XK), fd.code = cdv → Room k (A.deeper (envOfC qual (defScope st) s.heap.objs.size f cdv)) → sp vs H Q E →
      ∃ t, PSs (cxOf (L2.CX P w) P w K mg base N qual (defScope st) f cdv A outer s H E) (defBody st) t ∧ t { nx := fun _ H' => Q .non H', rt := Q } (L2.start N vs) H) : FnOk P w K mg base (L2.CX P w) (k + 1) f fd ps sp := by
  obtain ⟨u1, u2, u3, u4, u5, u6, code, u7, u8, e, known, named⟩ := F.ex
  subst e
  exact fn_of known named S len fun A outer s H vs Q E room q => go code A outer s H vs Q E rfl room q
theorem fn_okC {x qual : Str} {st : Stmt} {f : Addr} {fd : FuncData} {N ps : List Str} {k : Nat} {exc : Nat → Value} {b : SS} (F : Fun K x qual st f fd) (S : FnScope N ps (defScope st))
    (hbody : ∀ (cdv : Value) (A : Around) (outer : List PySem.Env) (s : Shared) (H : Hp) (E : XK) (W : WX) (w0 : Ws), fd.code = cdv → Room k (A.deeper (envOfC qual (defScope st) s.heap.objs.size f cdv)) →
      Takes (cxOf (L2.CX P w) P w K mg base N qual (defScope st) f cdv A outer s H E) W → DSs (cxOf (L2.CX P w) P w K mg base N qual (defScope st) f cdv A outer s H E) ⟨W, exc, w0⟩ (defBody st) b) :
    FnOk P w K mg base (L2.CX P w) (k + 1) f fd ps (spOf K exc ps.length (semOf N.length b)) := by
  refine def_code F S (fun vs H Q E h => ?_) fun cdv A outer s H vs Q E hcd hr h => ?_
  · obtain ⟨w0, ds, _, _, _, _, _, hn, hv, _⟩ := h
    exact (Reps.length hv).trans hn
  · obtain ⟨w0, ds, e1, e2, e3, r, sz, hn, hv, q⟩ := h
    subst e3
    have own0 : ∀ p, ¬ Own w0.ε w0.σ p := fun p => by rw [e1]; exact own_nil
    have own1 : ∀ p, ¬ Own (startE N.length ds) (L2.start N vs) p := fun p ⟨i, m, h, _⟩ => by
      obtain ⟨d', e1, e2⟩ := startE_some h
      cases e1
    -- out of the body's state
    have out : ∀ {w' : Ws}, Mono { w0 with ε := startE N.length ds, σ := L2.start N vs } w' → Mono w0 w'.bare := fun {w'} m => by
      refine ⟨m.z, m.pre, fun b o h h1 _ nt => m.keep b o h h1 (own1 b) nt, fun a h => ?_, fun p h => (own_nil h).elim, m.rho, m.dom⟩
      rcases m.zold a h with h | h | h
      · exact .inl h
      · exact .inr (.inl h)
      · exact (own1 a h).elim
    refine ⟨tSS K ⟨fun cls d _ H => E cls d H, exc, { w0 with ε := startE N.length ds, σ := L2.start N vs }⟩ b, hbody cdv A outer s w0.H E _ _ hcd hr (takes_of rfl rfl rfl rfl), ?_⟩
    refine ⟨{ w0 with ε := startE N.length ds, σ := L2.start N vs }, rfl, rfl, relF_in r sz hv rfl, ?_⟩
    unfold semOf at q
    show POSTS K _ _ (b (startE N.length ds) w0.S) _
    cases hb : b (startE N.length ds) w0.S with
    | nx ε S' =>
      rw [hb] at q
      intro w' k1 k2 m r'
      exact q w'.bare rfl rfl k2 (out m) r'.r.bare r'.sz .non (by show DL.Rep K _ _ _ .non _; simp only [DL.Rep])
    | rt d ε S' =>
      rw [hb] at q
      intro w' k1 k2 m r' v hv'
      exact q w'.bare rfl rfl k2 (out m) r'.r.bare r'.sz v hv'
    | ex c ε S' =>
      rw [hb] at q
      intro w' k1 k2 m r'
      exact q w'.bare rfl rfl k2 (out m) r'.r.bare r'.sz
    | bk ε S' => rw [hb] at q; exact q.elim
    | ct ε S' => rw [hb] at q; exact q.elim
    | stuck => rw [hb] at q; exact q.elim
theorem fn_ok {x qual : Str} {st : Stmt} {f : Addr} {fd : FuncData} {N ps : List Str} {k : Nat} {exc : Nat → Value} {b : SS} (F : Fun K x qual st f fd) (S : FnScope N ps (defScope st))
    (hbody : ∀ (cdv : Value) (A : Around) (outer : List PySem.Env) (s : Shared) (H : Hp) (E : XK) (W : WX) (w0 : Ws), Room k (A.deeper (envOfC qual (defScope st) s.heap.objs.size f cdv)) →
      Takes (cxOf (L2.CX P w) P w K mg base N qual (defScope st) f cdv A outer s H E) W → DSs (cxOf (L2.CX P w) P w K mg base N qual (defScope st) f cdv A outer s H E) ⟨W, exc, w0⟩ (defBody st) b) :
    FnOk P w K mg base (L2.CX P w) (k + 1) f fd ps (spOf K exc ps.length (semOf N.length b)) := fn_okC F S fun cdv A outer s H E W w0 _ => hbody cdv A outer s H E W w0
end

/-! ### the law's own end -/
theorem sp_end {K : PySem.W.Frag} {exc : Nat → Value} {F : FS} {H : Hp} {a : Addr} {ns : List Int} (hn : ns.length ≤ 63) (sz : SzH H) (hS : SqL K H a (ns.map V.int)) {S' : Sto} (hF : F [.lst (ns.map D.int)] [] = .ok (.bl true) S') :
    spOf K exc 1 F [.ref a] H (fun v _ => v = .bl true) fun _ _ _ => False := by
  have reps : ∀ (Z : Addr → Prop) (ρ : List Addr) (ns : List Int), Reps K Z ρ H (ns.map D.int) (ns.map V.int) := fun Z ρ ns => by
    induction ns with
    | nil => show DL.Reps K Z ρ H [] []; simp only [DL.Reps]
    | cons n ns ih =>
      show DL.Reps K Z ρ H (.int n :: ns.map D.int) (.int n :: ns.map V.int)
      simp only [DL.Reps]
      exact ⟨.int n, ns.map V.int, rfl, by simp only [DL.Rep], ih⟩
  have fz : FzL K (fun b => b = a ∧ H a = some (.lst (ns.map V.int))) H a (ns.map V.int) := by
    rcases hS with (h | h) | h
    · exact .inl ⟨⟨rfl, h⟩, h⟩
    · refine .inr (.inl ⟨?_, h⟩)
      rw [List.length_map]
      exact Nat.le_trans hn (by decide)
    · exact .inr (.inr h)
  refine ⟨⟨fun b => b = a ∧ H a = some (.lst (ns.map V.int)), [], [], [], [], H⟩, [.lst (ns.map D.int)], rfl, rfl, rfl, ⟨rfl, fun i d h => by simp at h, fun i m h => by simp at h, fun i j m n p h => by simp at h, rfl, fun n m p h => by simp at h, List.nodup_nil, fun a h => by simp, fun b h => ⟨.lst (ns.map V.int), (congrArg H h.1).trans h.2, trivial⟩⟩, sz, rfl, ?_, ?_⟩
  · show DL.Reps K _ _ H [.lst (ns.map D.int)] [.ref a]
    simp only [DL.Reps, DL.Rep]
    exact ⟨.ref a, [], rfl, ⟨a, ns.map V.int, rfl, fz, reps _ _ ns⟩, rfl⟩
  · show match F [.lst (ns.map D.int)] [] with
      | .ok d S => _
      | .ex c S => _
      | .stuck => False
    rw [hF]
    intro w' _ _ _ _ _ _ v hv
    simpa [DL.Rep] using hv
omit [TabT]
theorem ok_szW {P : Program} {w : World} {H : Hp} {h : Heap} {a : Addr} {o : HO} (x : ObjOk P w H h a o) : SzW o := by
  cases o with
  | lst xs => exact x.1
  | tup xs => exact x.1
  | dK kvs => exact x.1
  | dT kvs => exact x.1
  | ins C dx fs => exact x.2.1
  | _ => trivial
/-- the law's def: it is handed a list of ints, the tables are empty -/
def spT (T : List (Addr × Str)) (K : PySem.W.Frag) : Sp := fun vs H Q E => ∃ (a : Addr) (ns : List Int), vs = [.ref a] ∧ ns.length ≤ 63 ∧ SqL K H a (ns.map V.int) ∧ (∀ p ∈ T, H p.1 = some (.tbl #[])) ∧ Q = (fun v _ => v = .bl true) ∧ E = fun _ _ _ => False
theorem fn_law {P : Program} {w : World} {K : PySem.W.Frag} {mg : Str → Option Value} {base : Heap} {CX : CXT} {k : Nat} {f : Addr} {fd : FuncData} {x : Str} {F : FS} {exc : Nat → Value} {T : List (Addr × Str)}
    (h : ∀ Y : Addr → Prop, FnOk P w K mg base CX k f fd [x] (@spOf ⟨T, Y⟩ K exc 1 F)) (hF : ∀ ns : List Int, ns.length ≤ 63 → ∃ S', F [.lst (ns.map D.int)] [] = .ok (.bl true) S') : FnOk P w K mg base CX k f fd [x] (spT T K) := by
  refine ⟨fun vs H Q E ⟨a, ns, e, _⟩ => by rw [e]; rfl, fun A outer s H args us vs Q E hr e0 hb rv hsp => ?_⟩
  obtain ⟨a, ns, e1, e2, e3, e4, e5, e6⟩ := hsp
  subst e1; subst e5; subst e6
  obtain ⟨S', hS'⟩ := hF ns e2
  refine (h fun b => ∃ o, H b = some o).run A outer s H args us _ _ _ hr e0 hb rv (@sp_end ⟨T, fun b => ∃ o, H b = some o⟩ _ _ _ _ _ _ e2 ?_ e3 _ hS')
  exact @SzH.mk ⟨T, fun b => ∃ o, H b = some o⟩ H (fun b o q => ok_szW (e0.hok b o q)) (fun b o q n => absurd ⟨o, q⟩ n) (fun b q => q) fun p hp => LamX.TabS.nil (e4 p hp)
end DL
namespace DL
open L2 PyProof.Rows PySem PySem.Spec
variable [TabT]

section
variable {K : PySem.W.Frag} {Z : Addr → Prop} {ρ : List Addr} {H H' : Hp} {a : Addr} {xs : List V}
theorem fzL_len (sz : SzH H) (h : FzL K Z H a xs) : xs.length ≤ sizeLine := by
  rcases h with ⟨_, h⟩ | ⟨l, _⟩ | ⟨o, its, n, _, _, _, _, hs, hv⟩
  · exact sz a _ h
  · exact l
  · rw [hv.length, Array.length_toList]; exact hs
theorem tpT_len (sz : SzH H) (h : TpT K H a xs) : xs.length ≤ sizeLine := sz a _ h
theorem Rep.same {Z' : Addr → Prop} (e : Same H H') (hz : ∀ a, Z a → Z' a) {d : D} {v : V} (h : Rep K Z ρ H d v) : Rep K Z' ρ H' d v :=
  Rep.mono (w := ⟨Z, ρ, [], [], [], H⟩) (w' := ⟨Z', ρ, [], [], [], H'⟩) ⟨hz, ⟨[], by simp⟩, fun b o q _ => e b o q⟩ d v h
theorem Reps.same {Z' : Addr → Prop} (e : Same H H') (hz : ∀ a, Z a → Z' a) {d : List D} {v : List V} (h : Reps K Z ρ H d v) : Reps K Z' ρ H' d v :=
  Reps.mono (w := ⟨Z, ρ, [], [], [], H⟩) (w' := ⟨Z', ρ, [], [], [], H'⟩) ⟨hz, ⟨[], by simp⟩, fun b o q _ => e b o q⟩ d v h
end
/-- what an operation may leave: the heap grown, N newly frozen -/
def Grown (K : PySem.W.Frag) (Z : Addr → Prop) (ρ : List Addr) (H : Hp) (d : D) (Q : VK) : Prop :=
  ∀ (v : V) (H' : Hp) (N : Addr → Prop), Same H H' → SzH H' → (∀ a, N a → H a = none ∧ ∃ o, H' a = some o) → Rep K (fun a => Z a ∨ N a) ρ H' d v → Q v H'
theorem Grown.now {K : PySem.W.Frag} {Z : Addr → Prop} {ρ : List Addr} {H : Hp} {d : D} {Q : VK} {v : V} (g : Grown K Z ρ H d Q) (sz : SzH H) (h : Rep K Z ρ H d v) : Q v H :=
  g v H (fun _ => False) (Same.refl H) sz (fun _ z => z.elim) (Rep.same (Same.refl H) (fun _ z => .inl z) h)
theorem Same.lay {H : Hp} {p : Addr} {o : HO} (hp : H p = none) : Same H (upd H p o) := fun b u h => by
  rw [upd_ne (ne_of_none h hp)]; exact h
theorem SzH.lay {H : Hp} {p : Addr} {o : HO} (sz : SzH H) (hp : H p = none) (so : SzOk o) : SzH (upd H p o) := sz.put so (.inl hp)
/-- a new tuple -/
theorem Grown.tup {K : PySem.W.Frag} {Z : Addr → Prop} {ρ : List Addr} {H : Hp} {ds : List D} {vs : List V} {Q : VK} (g : Grown K Z ρ H (.tup ds) Q) (sz : SzH H) (h : Reps K Z ρ H ds vs) (hl : vs.length ≤ sizeLine) {p : Addr} (hp : H p = none) : Q (.ref p) (upd H p (.tup vs)) := by
  refine g _ _ (fun _ => False) (Same.lay hp) (sz.lay hp hl) (fun _ z => z.elim) ?_
  simp only [DL.Rep]
  exact ⟨p, vs, rfl, upd_same, Reps.same (Same.lay hp) (fun _ z => .inl z) h⟩
/-- a new list, frozen at once -/
theorem Grown.lst {K : PySem.W.Frag} {Z : Addr → Prop} {ρ : List Addr} {H : Hp} {ds : List D} {vs : List V} {Q : VK} (g : Grown K Z ρ H (.lst ds) Q) (sz : SzH H) (h : Reps K Z ρ H ds vs) (hl : vs.length ≤ sizeLine) {p : Addr} (hp : H p = none) : Q (.ref p) (upd H p (.lst vs)) := by
  refine g _ _ (fun a => a = p) (Same.lay hp) (sz.lay hp hl) (fun a z => by subst z; exact ⟨hp, _, upd_same⟩) ?_
  simp only [DL.Rep]
  exact ⟨p, vs, rfl, .inl ⟨.inr rfl, upd_same⟩, Reps.same (Same.lay hp) (fun _ z => .inl z) h⟩

/-! ### pure expressions: nothing is changed, owned things are read where they lie -/
abbrev PF := EV → Sto → Option D
abbrev Ws.ZL (w : Ws) : Addr → Prop := fun a => w.Z a ∨ (Own w.ε w.σ a ∨ a ∈ w.ρ)
/-- the state grown -/
abbrev Ws.gr (w : Ws) (H : Hp) (N : Addr → Prop) : Ws := { w with H := H, Z := fun a => w.Z a ∨ N a }
theorem RelC.gr {K : PySem.W.Frag} {C : Cfg} {w : Ws} (r : RelC K C w) {H' : Hp} {N : Addr → Prop} (e : Same w.H H') (sz : SzH H') (hN : ∀ a, N a → w.H a = none ∧ ∃ o, H' a = some o) : Mono w (w.gr H' N) ∧ RelC K C (w.gr H' N) := by
  have m : Mono w (w.gr H' N) := by
    refine ⟨fun _ h => .inl h, ⟨[], by simp⟩, fun b o h _ _ _ => e b o h, fun a h => h.imp id fun h => .inl (hN a h).1, fun _ h => .inl h, fun _ h => .inl h, fun b h => ?_⟩
    exact e.free (l := b) h
  refine ⟨m, r.r.step (m.le r.r) rfl rfl rfl rfl (fun a h => h.imp id fun h => ?_) (fun a o _ h => e a o h), r.m.trans m, sz⟩
  obtain ⟨h1, h2⟩ := hN a h
  refine ⟨fun z => ?_, fun z => ?_, let ⟨o, z⟩ := h2; ⟨o, z, sz.nt z (r.sz.fresh h1)⟩⟩
  · obtain ⟨o, k, _⟩ := r.r.rhoMu z
    rw [h1] at k; cases k
  · obtain ⟨o, k, _⟩ := r.r.ownMu z
    rw [h1] at k; cases k
def tP (K : PySem.W.Frag) (C : Cfg) (f : PF) : TE := fun σ H Q => ∃ (w : Ws) (d : D), w.σ = σ ∧ w.H = H ∧ RelC K C w ∧ f w.ε w.S = some d ∧ Grown K w.ZL w.ρ w.H d Q
def DP (X : Cx) (C : Cfg) (e : Expr) (f : PF) : Prop := PE X e (tP X.K C f)
def tPT (K : PySem.W.Frag) (C : Cfg) (f : EV → Sto → Option Bool) : TT := fun σ H Q => ∃ (w : Ws) (b : Bool), w.σ = σ ∧ w.H = H ∧ RelC K C w ∧ f w.ε w.S = some b ∧
  ∀ (H' : Hp) (N : Addr → Prop), Same w.H H' → SzH H' → (∀ a, N a → w.H a = none ∧ ∃ o, H' a = some o) → Q b H'
def DPT (X : Cx) (C : Cfg) (e : Expr) (f : EV → Sto → Option Bool) : Prop := PT X e (tPT X.K C f)
def tPA (K : PySem.W.Frag) (C : Cfg) (f : EV → Sto → Option (List D)) : TA := fun σ H Q => ∃ (w : Ws) (ds : List D), w.σ = σ ∧ w.H = H ∧ RelC K C w ∧ f w.ε w.S = some ds ∧
  ∀ (vs : List V) (H' : Hp) (N : Addr → Prop), Same w.H H' → SzH H' → (∀ a, N a → w.H a = none ∧ ∃ o, H' a = some o) → Reps K (fun a => w.ZL a ∨ N a) w.ρ H' ds vs → Q vs H'
def DPA (X : Cx) (C : Cfg) (es : List Expr) (f : EV → Sto → Option (List D)) : Prop := PA X es (tPA X.K C f)
section
variable {X : Cx} {C : Cfg} {e a b : Expr} {es : List Expr} {f fa fb : PF} {pos : Pos}
/-- growing twice -/
theorem grow2 {H H1 H2 : Hp} {N N' : Addr → Prop} (e1 : Same H H1) (h1 : ∀ a, N a → H a = none ∧ ∃ o, H1 a = some o) (e2 : Same H1 H2) (h2 : ∀ a, N' a → H1 a = none ∧ ∃ o, H2 a = some o) : ∀ a, (N a ∨ N' a) → H a = none ∧ ∃ o, H2 a = some o := fun a h => by
  rcases h with h | h
  · obtain ⟨k1, o, k2⟩ := h1 a h
    exact ⟨k1, o, e2 a o k2⟩
  · obtain ⟨k1, k2⟩ := h2 a h
    exact ⟨e1.free k1, k2⟩
theorem Grown.after {K : PySem.W.Frag} {Z : Addr → Prop} {ρ : List Addr} {H H1 : Hp} {N : Addr → Prop} {d : D} {Q : VK} (g : Grown K Z ρ H d Q) (e1 : Same H H1) (h1 : ∀ a, N a → H a = none ∧ ∃ o, H1 a = some o) : Grown K (fun a => Z a ∨ N a) ρ H1 d Q :=
  fun v H2 N' e2 sz h2 hv => g v H2 (fun a => N a ∨ N' a) (e1.trans e2) sz (grow2 e1 h1 e2 h2) (Rep.same (Same.refl H2) (fun a z => by rcases z with (z | z) | z; exact .inl z; exact .inr (.inl z); exact .inr (.inr z)) hv)
def pCst (d : D) : PF := fun _ _ => some d
theorem dp_cst {v : V} {d : D} (h : PE X e (tC v)) (r : ∀ Z ρ H, Rep X.K Z ρ H d v) : DP X C e (pCst d) := PE_imp h fun σ H Q ⟨w, d', e1, e2, rl, hf, g⟩ => by
  subst e2
  cases hf
  exact g.now rl.sz (r _ _ _)
theorem dp_int {i j} : DP X C (.Constant (.int i) j pos) (pCst (.int i)) := dp_cst pe_int fun _ _ _ => by simp [DL.Rep]
theorem dp_bl {b j} : DP X C (.Constant (.bool b) j pos) (pCst (.bl b)) := dp_cst pe_bl fun _ _ _ => by simp [DL.Rep]
theorem dp_non {j} : DP X C (.Constant .none j pos) (pCst .non) := dp_cst pe_non fun _ _ _ => by simp [DL.Rep]
theorem dp_str {x j} : DP X C (.Constant (.str x) j pos) (pCst (.str x)) := dp_cst pe_str fun _ _ _ => by simp [DL.Rep]
def pVar (i : Nat) : PF := fun ε _ => match ε[i]? with
  | some (some (.val d)) => some d
  | some (some (.own (.lst ds))) => some (.lst ds)
  | some (some (.own (.dic t ks ds))) => some (.dic t ks ds)
  | _ => none
theorem dp_var' {i : Nat} (h : PE X e (tVar i)) : DP X C e (pVar i) := PE_imp h fun σ H Q ⟨w, d, e1, e2, rl, hf, g⟩ => by
  subst e1; subst e2
  show ∃ v, w.σ[i]? = some (some v) ∧ Q v w.H
  unfold pVar at hf
  cases hε : w.ε[i]? with
  | none => rw [hε] at hf; cases hf
  | some x =>
    rw [hε] at hf
    cases x with
    | none => cases hf
    | some x =>
      cases x with
      | val d' =>
        cases hf
        obtain ⟨v, s, r⟩ := rl.r.val i _ hε
        exact ⟨v, s, g.now rl.sz (Rep.same (Same.refl _) (fun _ z => .inl z) r)⟩
      | own m =>
        obtain ⟨p, s, ho, _, _⟩ := rl.r.own i m hε
        have ow : w.ZL p := .inr (.inl ⟨i, m, hε, s⟩)
        cases m with
        | obj c fs => cases hf
        | lst ds =>
          cases hf
          obtain ⟨vs, e, q⟩ := ho
          refine ⟨.ref p, s, g.now rl.sz ?_⟩
          simp only [DL.Rep]
          exact ⟨p, vs, rfl, .inl ⟨ow, e⟩, Reps.same (Same.refl _) (fun _ z => .inl z) q⟩
        | dic tk ks ds =>
          cases hf
          obtain ⟨vs, e, q⟩ := ho
          refine ⟨.ref p, s, g.now rl.sz ?_⟩
          simp only [DL.Rep]
          exact ⟨p, vs, rfl, ow, e, Reps.same (Same.refl _) (fun _ z => .inl z) q⟩
theorem dp_var (i : Nat) {x : Str} (hN : X.N[i]? = some x := by rfl) (hv : Vis X.env.scope x := by first | exact Or.inl rfl | exact Or.inr (Or.inl rfl) | exact Or.inr (Or.inr rfl)) (hd : (x == ("__debug__" : Str)) = false := by decide)
    (hcd : (x == ("__classdict__" : Str)) = false := by decide) : DP X C (.Name x pos) (pVar i) := dp_var' (pe_var hN hv hd hcd)
theorem bind_some {α β : Type} {o : Option α} {k : α → Option β} {y : β} (h : o.bind k = some y) : ∃ x, o = some x ∧ k x = some y := by
  cases o with
  | none => cases h
  | some x => exact ⟨x, rfl, h⟩
/-- what an object of the store holds -/
def pAt (f : PF) : PF := fun ε S => (f ε S).bind fun d => match d with
  | .ref n => match S[n]? with
    | some (.lst ds) => some (.lst ds)
    | some (.dic t ks ds) => some (.dic t ks ds)
    | _ => none
  | _ => none
theorem dp_at (h : DP X C e f) : DP X C e (pAt f) := PE_imp h fun σ H Q ⟨w, d, e1, e2, rl, hf, g⟩ => by
  subst e1; subst e2
  obtain ⟨dx, h1, hf⟩ := bind_some hf
  refine ⟨w, dx, rfl, rfl, rl, h1, fun v H' N s sz n hv => ?_⟩
  cases dx with
  | ref k =>
    dsimp only at hf
    simp only [DL.Rep] at hv
    obtain ⟨a, ev, ha⟩ := hv
    subst ev
    have ow : w.ZL a := .inr (.inr (List.mem_of_getElem? ha))
    cases hS : w.S[k]? with
    | none => rw [hS] at hf; cases hf
    | some m =>
      rw [hS] at hf
      have ho := rl.r.sto k m a hS ha
      refine g _ H' N s sz n ?_
      cases m with
      | obj c fs => cases hf
      | lst ds =>
        cases hf
        obtain ⟨vs, e, q⟩ := ho
        simp only [DL.Rep]
        exact ⟨a, vs, rfl, .inl ⟨.inl ow, s a _ e⟩, Reps.same s (fun _ z => .inl (.inl z)) q⟩
      | dic tk ks ds =>
        cases hf
        obtain ⟨vs, e, q⟩ := ho
        simp only [DL.Rep]
        refine ⟨a, vs, rfl, .inl ow, ?_, Reps.same s (fun _ z => .inl (.inl z)) q⟩
        rcases e with ⟨et, kvs, e, e1⟩ | ⟨et, kvs, e, e1⟩
        · exact .inl ⟨et, kvs, s a _ e, e1⟩
        · exact .inr ⟨et, kvs, s a _ e, e1⟩
  | _ => cases hf
/-- an operation on two values -/
def OpG (K : PySem.W.Frag) (r : R2) (op : D → D → Option D) : Prop := ∀ (Z : Addr → Prop) (ρ : List Addr) (H : Hp) (x y : V) (dx dy d : D) (Q : VK), SzH H → Rep K Z ρ H dx x → Rep K Z ρ H dy y → op dx dy = some d → Grown K Z ρ H d Q → r x y H Q
def pOp (op : D → D → Option D) (fa fb : PF) : PF := fun ε S => (fa ε S).bind fun x => (fb ε S).bind fun y => op x y
/-- a part, and what comes behind it in the grown state -/
theorem tP.then {K : PySem.W.Frag} {C : Cfg} {w : Ws} {f : PF} {d : D} {Q : VK} (rl : RelC K C w) (hf : f w.ε w.S = some d)
    (k : ∀ (v : V) (H' : Hp) (N : Addr → Prop), Same w.H H' → RelC K C (w.gr H' N) → (∀ a, N a → w.H a = none ∧ ∃ o, H' a = some o) → Rep K (w.gr H' N).ZL w.ρ H' d v → Q v H') : tP K C f w.σ w.H Q := by
  refine ⟨w, d, rfl, rfl, rl, hf, fun v H' N e sz h hv => ?_⟩
  obtain ⟨m, r⟩ := rl.gr e sz h
  exact k v H' N e r h (Rep.same (Same.refl _) (fun a z => by rcases z with (z | z) | z; exact .inl (.inl z); exact .inr z; exact .inl (.inr z)) hv)
theorem two_pure {op : D → D → Option D} {r : R2} (ok : OpG X.K r op) : ∀ σ H Q, tP X.K C (pOp op fa fb) σ H Q → tOp r (tP X.K C fa) (tP X.K C fb) σ H Q := fun σ H Q ⟨w, d, e1, e2, rl, hf, g⟩ => by
  subst e1; subst e2
  obtain ⟨dx, h1, hf⟩ := bind_some hf
  obtain ⟨dy, h2, hf⟩ := bind_some hf
  refine tP.then rl h1 fun x H1 N1 s1 r1 n1 hx => ?_
  refine tP.then (w := w.gr H1 N1) r1 h2 fun y H2 N2 s2 r2 n2 hy => ?_
  refine ok _ w.ρ H2 x y dx dy d Q r2.sz (Rep.same s2 (fun a z => ?_) hx) hy hf ?_
  · rcases z with z | z
    · exact .inl (.inl z)
    · exact .inr z
  · exact fun v H3 N3 s3 sz3 n3 hv => g v H3 (fun a => (N1 a ∨ N2 a) ∨ N3 a) ((s1.trans s2).trans s3) sz3 (grow2 (s1.trans s2) (grow2 s1 n1 s2 n2) s3 n3)
      (Rep.same (Same.refl _) (fun a z => by rcases z with (((z | z) | z) | z) | z; exact .inl (.inl z); exact .inr (.inl (.inl z)); exact .inr (.inl (.inr z)); exact .inl (.inr z); exact .inr (.inr z)) hv)
theorem dp_op {op : Operator} {r : R2} {g : D → D → Option D} (ok : OpG X.K r g) (ho : OpR X (binaryOp op) r) (ha : DP X C a fa) (hb : DP X C b fb) : DP X C (.BinOp a op b pos) (pOp g fa fb) := PE_imp (pe_op ho ha hb) (two_pure ok)
theorem dp_cmp {op : CmpOp} {r : R2} {g : D → D → Option D} (ok : OpG X.K r g) (ho : OpR X (compareOp op) r) (hm : behindInMarks op b = false) (ha : DP X C a fa) (hb : DP X C b fb) : DP X C (.Compare a [op] [b] pos) (pOp g fa fb) :=
  PE_imp (pe_cmpR ho ha hb hm) (two_pure ok)
/-- a pure value as a test -/
def pB (f : PF) : EV → Sto → Option Bool := fun ε S => (f ε S).bind isB
theorem test_pure {t : TE} (hE : ∀ σ H Q, tP X.K C f σ H Q → t σ H Q) : ∀ σ H Q, tPT X.K C (pB f) σ H Q → tTest t σ H Q := fun σ H Q ⟨w, k, e1, e2, rl, hf, g⟩ => by
  obtain ⟨d, h1, hf⟩ := bind_some hf
  have ed := isB_some hf
  subst ed
  refine hE σ H _ ⟨w, .bl k, e1, e2, rl, h1, fun v H' N s sz n hv => ⟨k, by simpa [DL.Rep] using hv, g H' N s sz n⟩⟩
theorem dpt_cmp {op : CmpOp} {r : R2} {g : D → D → Option D} (ok : OpG X.K r g) (ho : OpR X (compareOp op) r) (hm : behindInMarks op b = false) (ha : DP X C a fa) (hb : DP X C b fb) : DPT X C (.Compare a [op] [b] pos) (pB (pOp g fa fb)) :=
  PT_imp (pt_cmpR ho ha hb hm) (test_pure (two_pure ok))
theorem dpt_val (h : DP X C e f) (he : ∀ whole, isTrue e X.env whole = (do let v ← whole; standAt e.pos; holding [v] (truthy v)) := by intro _; rfl) : DPT X C e (pB f) :=
  PT_imp (pt_val h he) (test_pure fun σ H Q q => q)
/-! to the judgements with change -/
mutual
def lf : D → Bool
  | .lst _ => false
  | .dic _ _ _ => false
  | .tup ds => lfs ds
  | _ => true
def lfs : List D → Bool
  | [] => true
  | d :: ds => lf d && lfs ds
end
mutual
theorem Rep.lf {K : PySem.W.Frag} {Z Z' : Addr → Prop} {ρ : List Addr} {H : Hp} : ∀ (d : D) (v : V), DL.lf d = true → Rep K Z ρ H d v → Rep K Z' ρ H d v
  | .non, _, _, h => by simp only [DL.Rep] at *; exact h
  | .bl _, _, _, h => by simp only [DL.Rep] at *; exact h
  | .int _, _, _, h => by simp only [DL.Rep] at *; exact h
  | .str _, _, _, h => by simp only [DL.Rep] at *; exact h
  | .tup ds, _, l, h => by
    simp only [DL.Rep] at *
    simp only [DL.lf] at l
    obtain ⟨a, vs, e, hs, ht⟩ := h
    exact ⟨a, vs, e, hs, Reps.lf ds vs l ht⟩
  | .lst ds, _, l, _ => by simp [DL.lf] at l
  | .dic _ ks ds, _, l, _ => by simp [DL.lf] at l
  | .ref n, _, _, h => by simp only [DL.Rep] at *; exact h
theorem Reps.lf {K : PySem.W.Frag} {Z Z' : Addr → Prop} {ρ : List Addr} {H : Hp} : ∀ (ds : List D) (vs : List V), DL.lfs ds = true → Reps K Z ρ H ds vs → Reps K Z' ρ H ds vs
  | [], _, _, h => by simp only [DL.Reps] at *; exact h
  | d :: ds, _, l, h => by
    simp only [DL.Reps] at *
    simp only [DL.lfs, Bool.and_eq_true] at l
    obtain ⟨v, ws, e, h1, h2⟩ := h
    exact ⟨v, ws, e, Rep.lf d v l.1 h1, Reps.lf ds ws l.2 h2⟩
end
def ePure (f : PF) : ES D := fun ε S => match f ε S with
  | some d => if lf d then .ok d ε S else .stuck
  | none => .stuck
theorem de_pure (h : DP X C e f) : DE X C e (ePure f) := PE_imp h fun σ H Q ⟨w, e1, e2, rl, q⟩ => by
  subst e1; subst e2
  unfold ePure at q
  cases hf : f w.ε w.S with
  | none => rw [hf] at q; exact q.elim
  | some d =>
    rw [hf] at q
    dsimp only at q
    by_cases hl : lf d = true
    · rw [if_pos hl] at q
      refine ⟨w, d, rfl, rfl, rl, hf, fun v H' N s sz n hv => ?_⟩
      obtain ⟨m, r⟩ := rl.gr s sz n
      have q2 := POST.at q m r rfl rfl rfl
      exact q2 v (Rep.lf d v hl hv)
    · rw [if_neg hl] at q; exact q.elim
def ePT (f : EV → Sto → Option Bool) : ES Bool := fun ε S => R.opt (f ε S) ε S
theorem dt_pure {f : EV → Sto → Option Bool} (h : DPT X C e f) : DT X C e (ePT f) := PT_imp h fun σ H Q ⟨w, e1, e2, rl, q⟩ => by
  subst e1; subst e2
  obtain ⟨b, hb, q⟩ := POST.opt q
  refine ⟨w, b, rfl, rfl, rl, hb, fun H' N s sz n => ?_⟩
  obtain ⟨m, r⟩ := rl.gr s sz n
  exact POST.at q m r rfl rfl rfl
/-- an operation that is pure, between parts that may change things -/
def eOpP (op : D → D → Option D) : ES D → ES D → ES D := eOp fun x y ε S => R.opt (op x y) ε S
theorem OpG.ok {op : D → D → Option D} {r : R2} (ok : OpG X.K r op) : OpOk X C r fun x y ε S => R.opt (op x y) ε S := fun w x y dx dy Q rl hx hy q => by
  obtain ⟨d, hd, q⟩ := POST.opt q
  refine ok w.Z w.ρ w.H x y dx dy d Q rl.sz hx hy hd fun v H' N s sz n hv => ?_
  obtain ⟨m, r⟩ := rl.gr s sz n
  have q2 := POST.at q m r rfl rfl rfl
  exact q2 v hv
end
end DL
namespace DL
open L2 PyProof.Rows PySem PySem.Spec
variable [TabT]
section
variable {K : PySem.W.Frag} {Z : Addr → Prop} {ρ : List Addr} {H : Hp} {v : V}
@[simp] theorem rep_non : Rep K Z ρ H .non v ↔ v = .non := by simp [DL.Rep]
@[simp] theorem rep_bool {b : Bool} : Rep K Z ρ H (.bl b) v ↔ v = .bl b := by simp [DL.Rep]
@[simp] theorem rep_int {i : Int} : Rep K Z ρ H (.int i) v ↔ v = .int i := by simp [DL.Rep]
@[simp] theorem rep_str {x : Str} : Rep K Z ρ H (.str x) v ↔ v = .str x := by simp [DL.Rep]
theorem rep_tup {ds : List D} : Rep K Z ρ H (.tup ds) v ↔ ∃ a vs, v = .ref a ∧ TpT K H a vs ∧ Reps K Z ρ H ds vs := by simp [DL.Rep]
theorem rep_lst {ds : List D} : Rep K Z ρ H (.lst ds) v ↔ ∃ a vs, v = .ref a ∧ FzL K Z H a vs ∧ Reps K Z ρ H ds vs := by simp [DL.Rep]
theorem OpR_or {X : Cx} {f : Value → Value → Sem Value} {r r' : R2} (h : OpR X f r) (h' : OpR X f r') : OpR X f (fun x y H Q => r x y H Q ∨ r' x y H Q) := by
  intro pins s σ H x y v u Q I rx ry q
  rcases q with q | q
  · exact h pins s σ H x y v u Q I rx ry q
  · exact h' pins s σ H x y v u Q I rx ry q
end
/-! ### + -/
def rCatS (K : PySem.W.Frag) : R2 := fun x y H Q => ∃ l b xs zs, x = .ref l ∧ y = .ref b ∧ SqL K H l xs ∧ SqL K H b zs ∧ xs.length + zs.length ≤ sizeLine ∧ ∀ p, H p = none → Q (.ref p) (upd H p (.lst (xs ++ zs)))
theorem op_catS {X : Cx} : OpR X (binaryOp .Add) (rCatS X.K) := by
  intro pins s σ H x y v u Q I rx ry h
  obtain ⟨l, b, xs, zs, rfl, rfl, hH, hB, hz, q⟩ := h
  cases rx
  cases ry
  obtain ⟨its, rv, ⟨⟨cls, dd, data, sl⟩, n, e, hc, hd, hdat⟩, z⟩ := I.list hH
  obtain ⟨its2, rv2, ⟨⟨cls2, dd2, data2, sl2⟩, n2, e2, hc2, hd2, hdat2⟩, z2⟩ := I.list hB
  simp only at hc hd hdat hc2 hd2 hdat2
  subst hc hdat hc2 hdat2
  have hl := rv.length
  have hl2 := rv2.length
  refine concat_meets ⟨_, e, rfl⟩ ⟨_, e2, rfl⟩ noFill_list_add seq_list_add PySem.F.slot_list_add PySem.F.entry_list_add (PySem.F.args_list_add_2 _ _)
    (list_addW l b its.toArray its2.toArray n n2 dd dd2 sl sl2 (by rw [List.size_toArray, List.size_toArray]; omega)) ⟨e, e2, ?_⟩
  have ea : its.toArray ++ its2.toArray = (its ++ its2).toArray := by simp
  rw [ea]
  exact ⟨.ref _, _, I.lnew (t' := s.toks) (rv.append rv2) (by rw [List.length_append]; omega), rfl, q _ I.fresh⟩
def rAddS : R2 := fun x y H Q => ∃ i j, x = .str i ∧ y = .str j ∧ i.length + j.length ≤ sizeLine ∧ Q (.str (i ++ j)) H
def rAddD (K : PySem.W.Frag) : R2 := fun x y H Q => rI0 (fun i j => .int (i + j)) x y H Q ∨ (rAddS x y H Q ∨ (rCatA K x y H Q ∨ rCatS K x y H Q))
theorem op_addD {X : Cx} : OpR X (binaryOp .Add) (rAddD X.K) := OpR_or op_add (OpR_or op_add_str (OpR_or op_catA op_catS))
def dAdd : D → D → Option D
  | .int i, .int j => some (.int (i + j))
  | .str x, .str y => if x.length + y.length ≤ sizeLine then some (.str (x ++ y)) else none
  | .tup xs, .tup ys => if xs.length + ys.length ≤ sizeLine then some (.tup (xs ++ ys)) else none
  | .lst xs, .lst ys => if xs.length + ys.length ≤ sizeLine then some (.lst (xs ++ ys)) else none
  | _, _ => none
theorem ite_some {α : Type} {c : Prop} [Decidable c] {x y : α} (h : (if c then some x else none) = some y) : c ∧ x = y := by
  split at h
  · rename_i hc
    exact ⟨hc, Option.some.inj h⟩
  · cases h
theorem ok_add {K : PySem.W.Frag} : OpG K (rAddD K) dAdd := fun Z ρ H x y dx dy d Q sz hx hy hd g => by
  unfold dAdd at hd
  split at hd
  · cases hd
    rw [rep_int] at hx hy
    exact .inl ⟨_, _, hx, hy, g.now sz (by simp)⟩
  · obtain ⟨hl, e⟩ := ite_some hd
    subst e
    rw [rep_str] at hx hy
    exact .inr (.inl ⟨_, _, hx, hy, hl, g.now sz (by simp)⟩)
  · obtain ⟨hl, e⟩ := ite_some hd
    subst e
    rename_i xs ys
    obtain ⟨a, vs, e1, h1, r1⟩ := rep_tup.mp hx
    obtain ⟨b, ws, e2, h2, r2⟩ := rep_tup.mp hy
    have l1 := r1.length
    have l2 := r2.length
    refine .inr (.inr (.inl ⟨a, b, vs, ws, e1, e2, h1.sq, h2.sq, by omega, fun z => ?_, fun _ z => ?_, fun _ _ p hp => g.tup sz (Reps.append r1 r2) (by rw [List.length_append]; omega) hp⟩))
    · subst z
      have : xs = [] := List.eq_nil_of_length_eq_zero (by simpa using l1.symm)
      subst this
      refine g.now sz (rep_tup.mpr ⟨b, ws, rfl, h2, r2⟩)
    · subst z
      have : ys = [] := List.eq_nil_of_length_eq_zero (by simpa using l2.symm)
      subst this
      refine g.now sz (rep_tup.mpr ⟨a, vs, rfl, h1, by rw [List.append_nil]; exact r1⟩)
  · obtain ⟨hl, e⟩ := ite_some hd
    subst e
    obtain ⟨a, vs, e1, h1, r1⟩ := rep_lst.mp hx
    obtain ⟨b, ws, e2, h2, r2⟩ := rep_lst.mp hy
    have l1 := r1.length
    have l2 := r2.length
    exact .inr (.inr (.inr ⟨a, b, vs, ws, e1, e2, h1.sq, h2.sq, by omega, fun p hp => g.lst sz (Reps.append r1 r2) (by rw [List.length_append]; omega) hp⟩))
  · cases hd
/-! ### ints -/
def dI (g : Int → Int → Int) : D → D → Option D
  | .int i, .int j => some (.int (g i j))
  | _, _ => none
theorem ok_I {K : PySem.W.Frag} {g : Int → Int → Int} : OpG K (rI0 fun i j => .int (g i j)) (dI g) := fun Z ρ H x y dx dy d Q sz hx hy hd gr => by
  unfold dI at hd
  split at hd
  · cases hd
    rw [rep_int] at hx hy
    exact ⟨_, _, hx, hy, gr.now sz (by simp)⟩
  · cases hd
abbrev dSub := dI fun i j => i - j
def small64' (i : Int) : Bool := decide (-18446744073709551616 < i) && decide (i < 18446744073709551616)
def dMul : D → D → Option D
  | .int i, .int j => if small64' i || small64' j then some (.int (i * j)) else none
  | .lst xs, .int k => if decide (-9223372036854775808 ≤ k) && decide (k < 9223372036854775808) && decide (xs.length * k.toNat ≤ sizeLine) then some (.lst (List.replicate k.toNat xs).flatten) else none
  | _, _ => none
def dMod : D → D → Option D
  | .int i, .int j => if 0 < j then some (.int (i % j)) else none
  | _, _ => none
def dDiv : D → D → Option D
  | .int i, .int j => if decide (0 < j) && decide (j < 1073741824) then some (.int (i / j)) else none
  | _, _ => none
theorem ok_mod {K : PySem.W.Frag} : OpG K (rI (fun _ j => 0 < j) fun i j => .int (i % j)) dMod := fun Z ρ H x y dx dy d Q sz hx hy hd gr => by
  unfold dMod at hd
  split at hd
  · obtain ⟨hl, e⟩ := ite_some hd
    subst e
    rw [rep_int] at hx hy
    exact ⟨_, _, hx, hy, hl, gr.now sz (by simp)⟩
  · cases hd
theorem ok_div {K : PySem.W.Frag} : OpG K (rI CDiv fun i j => .int (i / j)) dDiv := fun Z ρ H x y dx dy d Q sz hx hy hd gr => by
  unfold dDiv at hd
  split at hd
  · obtain ⟨hl, e⟩ := ite_some hd
    subst e
    simp only [Bool.and_eq_true, decide_eq_true_eq] at hl
    rw [rep_int] at hx hy
    exact ⟨_, _, hx, hy, hl, gr.now sz (by simp)⟩
  · cases hd
def rRepS (K : PySem.W.Frag) : R2 := fun x y H Q => ∃ l k xs, x = .ref l ∧ y = .int k ∧ SqL K H l xs ∧ -(2 ^ 63) ≤ k ∧ k < 2 ^ 63 ∧ xs.length * k.toNat ≤ sizeLine ∧ ∀ p, H p = none → Q (.ref p) (upd H p (.lst (List.replicate k.toNat xs).flatten))
theorem op_repS {X : Cx} : OpR X (binaryOp .Mult) (rRepS X.K) := by
  intro pins s σ H x y v u Q I rx ry h
  obtain ⟨l, k, xs, rfl, rfl, hH, h1, h2, hz, q⟩ := h
  cases rx
  obtain ⟨t, rfl⟩ := ry
  obtain ⟨its, rv, ⟨⟨cls, dd, data, sl⟩, n, e, hc, hd, hdat⟩, z⟩ := I.list hH
  simp only at hc hd hdat
  subst hc hdat
  have hl := rv.length
  have hsz : its.toArray.size * k.toNat ≤ 2 ^ 24 := by rw [List.size_toArray, ← hl]; exact hz
  refine wpAny_binaryOp_repeat_ref (T := "list") (U := "int") (by decide) ⟨_, e, rfl⟩ (fun s' => typeIs_int s' k t) noFill_list_mul F.fills_int_mul F.slot_int_rmul repeat_list F.slot_int_index.lookup
    (call_meets F.slot_int_rmul (typeIs_int s k t) F.entry_int_rmul (F.args_int_rmul_2 _ _) (lm_int_rmul_list_any k t l its.toArray n dd sl)
      ⟨e, rfl, ⟨_, e, rfl⟩, call_meets F.slot_list_mul ⟨_, e, rfl⟩ F.entry_list_mul (F.args_list_mul_2 _ _)
        (lm_list_mul_any l its.toArray n dd sl k t (by rw [fitsIndex_both h1 h2]; exact Bool.false_ne_true) (by simp at hsz ⊢; omega) (by rw [notLongL hsz]; exact Bool.false_ne_true)) ⟨e, ?_⟩⟩)
  rw [listMul_foldl_if]
  exact ⟨.ref _, _, I.lnew (t' := s.toks) (rv.rep k.toNat) (by rw [PyProof.Rows.lm_len_rep_flat, Nat.mul_comm]; exact hz), rfl, q _ I.fresh⟩
theorem Reps.rep {K : PySem.W.Frag} {Z : Addr → Prop} {ρ : List Addr} {H : Hp} {ds : List D} {vs : List V} (h : Reps K Z ρ H ds vs) : ∀ k : Nat, Reps K Z ρ H (List.replicate k ds).flatten (List.replicate k vs).flatten
  | 0 => by simp only [List.replicate_zero, List.flatten_nil, DL.Reps]
  | k + 1 => by
    simp only [List.replicate_succ, List.flatten_cons]
    exact Reps.append h (Reps.rep h k)
theorem ok_mul {K : PySem.W.Frag} : OpG K (fun x y H Q => rI CMul (fun i j => .int (i * j)) x y H Q ∨ rRepS K x y H Q) dMul := fun Z ρ H x y dx dy d Q sz hx hy hd gr => by
  unfold dMul at hd
  split at hd
  · obtain ⟨hl, e⟩ := ite_some hd
    subst e
    rw [rep_int] at hx hy
    refine .inl ⟨_, _, hx, hy, ?_, gr.now sz (by simp)⟩
    simp only [small64', Bool.or_eq_true, Bool.and_eq_true, decide_eq_true_eq] at hl
    exact hl
  · obtain ⟨hl, e⟩ := ite_some hd
    subst e
    simp only [Bool.and_eq_true, decide_eq_true_eq] at hl
    rw [rep_int] at hy
    obtain ⟨a, vs, e1, h1, r1⟩ := rep_lst.mp hx
    have l1 := r1.length
    refine .inr ⟨a, _, vs, e1, hy, h1.sq, hl.1.1, hl.1.2, by rw [l1]; exact hl.2, fun p hp => gr.lst sz (Reps.rep r1 _) ?_ hp⟩
    rw [PyProof.Rows.lm_len_rep_flat, Nat.mul_comm, l1]
    exact hl.2
  · cases hd
/-! ### == -/
mutual
def toPy : D → PyData
  | .non => .none
  | .bl b => .bool b
  | .int i => .int i
  | .str x => .str x
  | .tup ds => .tuple (toPys ds)
  | .lst ds => .list (toPys ds)
  | .dic _ _ _ => .none
  | .ref _ => .none
def toPys : List D → List PyData
  | [] => []
  | d :: ds => toPy d :: toPys ds
end
mutual
/-- of a kind that can be compared, at most n deep -/
def lay : Nat → D → Bool
  | _, .non => true
  | _, .bl _ => true
  | _, .int _ => true
  | _, .str x => PyData.strOk x
  | 0, .tup _ => false
  | n + 1, .tup ds => lays n ds
  | 0, .lst _ => false
  | n + 1, .lst ds => lays n ds
  | _, .dic _ _ _ => false
  | _, .ref _ => false
def lays : Nat → List D → Bool
  | _, [] => true
  | n, d :: ds => lay n d && lays n ds
end
mutual
def deq : D → D → Bool
  | .non, .non => true
  | .bl a, .bl b => a == b
  | .bl a, .int j => (if a then 1 else 0) == j
  | .int i, .bl b => i == (if b then 1 else 0)
  | .int i, .int j => i == j
  | .str x, .str y => x == y
  | .tup xs, .tup ys => deqs xs ys
  | .lst xs, .lst ys => deqs xs ys
  | _, _ => false
def deqs : List D → List D → Bool
  | [], [] => true
  | x :: xs, y :: ys => deq x y && deqs xs ys
  | _, _ => false
end
mutual
theorem lay_py : ∀ (n : Nat) (d : D), lay n d = true → (toPy d).canLay0 = true ∧ (toPy d).depth ≤ n
  | _, .non, _ => by simp [toPy, PyData.canLay0, PyData.depth]
  | _, .bl _, _ => by simp [toPy, PyData.canLay0, PyData.depth]
  | _, .int _, _ => by simp [toPy, PyData.canLay0, PyData.depth]
  | _, .str x, h => by simpa [toPy, PyData.canLay0, PyData.depth, lay] using h
  | 0, .tup _, h => by simp [lay] at h
  | n + 1, .tup ds, h => by
    simp only [lay] at h
    obtain ⟨h1, h2⟩ := lays_py n ds h
    simp only [toPy, PyData.canLay0, PyData.depth]
    exact ⟨h1, by omega⟩
  | 0, .lst _, h => by simp [lay] at h
  | n + 1, .lst ds, h => by
    simp only [lay] at h
    obtain ⟨h1, h2⟩ := lays_py n ds h
    simp only [toPy, PyData.canLay0, PyData.depth]
    exact ⟨h1, by omega⟩
  | _, .dic _ _ _, h => by simp [lay] at h
  | _, .ref _, h => by simp [lay] at h
theorem lays_py : ∀ (n : Nat) (ds : List D), lays n ds = true → PyData.canLayAll0 (toPys ds) = true ∧ PyData.depthAll (toPys ds) ≤ n
  | _, [], _ => by simp [toPys, PyData.canLayAll0, PyData.depthAll]
  | n, d :: ds, h => by
    simp only [lays, Bool.and_eq_true] at h
    obtain ⟨h1, h2⟩ := lay_py n d h.1
    obtain ⟨h3, h4⟩ := lays_py n ds h.2
    simp only [toPys, PyData.canLayAll0, PyData.depthAll, h1, h3]
    exact ⟨rfl, by omega⟩
end
theorem lay_shaped {d : D} (h : lay 64 d = true) : SeqAt.shaped (toPy d) = true := by
  obtain ⟨h1, h2⟩ := lay_py 64 d h
  simp only [SeqAt.shaped, h1, Bool.true_and, decide_eq_true_eq]
  exact h2
mutual
theorem deq_py : ∀ (n m : Nat) (x y : D), lay n x = true → lay m y = true → PyData.eqv (toPy x) (toPy y) = deq x y
  | n, m, x, y, h1, h2 => by
    cases x <;> cases y <;> first
      | (cases n <;> simp [lay] at h1; done)
      | (cases m <;> simp [lay] at h2; done)
      | (simp [toPy, PyData.eqv, deq]; done)
      | (cases n with
         | zero => simp [lay] at h1
         | succ n => cases m with
           | zero => simp [lay] at h2
           | succ m => simp only [lay] at h1 h2; simp only [toPy, PyData.eqv, deq]; exact deqs_py n m _ _ h1 h2)
theorem deqs_py : ∀ (n m : Nat) (xs ys : List D), lays n xs = true → lays m ys = true → PyData.eqvAll (toPys xs) (toPys ys) = deqs xs ys
  | _, _, [], [], _, _ => by simp [toPys, PyData.eqvAll, deqs]
  | _, _, [], _ :: _, _, _ => by simp [toPys, PyData.eqvAll, deqs]
  | _, _, _ :: _, [], _, _ => by simp [toPys, PyData.eqvAll, deqs]
  | n, m, x :: xs, y :: ys, h1, h2 => by
    simp only [lays, Bool.and_eq_true] at h1 h2
    simp only [toPys, PyData.eqvAll, deqs, deq_py n m x y h1.1 h2.1, deqs_py n m xs ys h1.2 h2.2]
end
mutual
theorem Rep.dp {K : PySem.W.Frag} {Z : Addr → Prop} {ρ : List Addr} {H : Hp} : ∀ (n : Nat) (d : D) (v : V), lay n d = true → Rep K Z ρ H d v → Dp K H v (toPy d)
  | _, .non, _, _, h => by rw [rep_non] at h; subst h; simp only [toPy]; exact .non
  | _, .bl b, _, _, h => by rw [rep_bool] at h; subst h; simp only [toPy]; exact .bl b
  | _, .int i, _, _, h => by rw [rep_int] at h; subst h; simp only [toPy]; exact .int i
  | _, .str x, _, _, h => by rw [rep_str] at h; subst h; simp only [toPy]; exact .str x
  | 0, .tup _, _, h, _ => by simp [lay] at h
  | n + 1, .tup ds, _, l, h => by
    simp only [lay] at l
    obtain ⟨a, vs, e, h1, h2⟩ := rep_tup.mp h
    subst e
    simp only [toPy]
    exact .tup h1.sq (Reps.dp n ds vs l h2)
  | 0, .lst _, _, h, _ => by simp [lay] at h
  | n + 1, .lst ds, _, l, h => by
    simp only [lay] at l
    obtain ⟨a, vs, e, h1, h2⟩ := rep_lst.mp h
    subst e
    simp only [toPy]
    exact .lst h1.sq (Reps.dp n ds vs l h2)
  | _, .dic _ _ _, _, h, _ => by simp [lay] at h
  | _, .ref _, _, h, _ => by simp [lay] at h
theorem Reps.dp {K : PySem.W.Frag} {Z : Addr → Prop} {ρ : List Addr} {H : Hp} : ∀ (n : Nat) (ds : List D) (vs : List V), lays n ds = true → Reps K Z ρ H ds vs → DpAll K H vs (toPys ds)
  | _, [], _, _, h => by simp only [DL.Reps] at h; subst h; simp only [toPys]; exact .nil
  | n, d :: ds, _, l, h => by
    simp only [DL.Reps] at h
    obtain ⟨v, ws, e, h1, h2⟩ := h
    subst e
    simp only [lays, Bool.and_eq_true] at l
    simp only [toPys]
    exact .cons (Rep.dp n d v l.1 h1) (Reps.dp n ds ws l.2 h2)
end
def dEq (x y : D) : Option D := if lay 64 x && lay 64 y then some (.bl (deq x y)) else none
def dNe (x y : D) : Option D := if lay 64 x && lay 64 y then some (.bl (!deq x y)) else none
theorem ok_eq {K : PySem.W.Frag} : OpG K (rEqD K) dEq := fun Z ρ H x y dx dy d Q sz hx hy hd gr => by
  obtain ⟨hl, e⟩ := ite_some hd
  simp only [Bool.and_eq_true] at hl
  subst e
  refine ⟨toPy dx, toPy dy, Rep.dp 64 dx x hl.1 hx, Rep.dp 64 dy y hl.2 hy, lay_shaped hl.1, lay_shaped hl.2, ?_⟩
  rw [deq_py 64 64 dx dy hl.1 hl.2]
  exact gr.now sz (by simp)
theorem ok_ne {K : PySem.W.Frag} : OpG K (rNeD K) dNe := fun Z ρ H x y dx dy d Q sz hx hy hd gr => by
  obtain ⟨hl, e⟩ := ite_some hd
  simp only [Bool.and_eq_true] at hl
  subst e
  refine ⟨toPy dx, toPy dy, Rep.dp 64 dx x hl.1 hx, Rep.dp 64 dy y hl.2 hy, lay_shaped hl.1, lay_shaped hl.2, ?_⟩
  rw [deq_py 64 64 dx dy hl.1 hl.2]
  exact gr.now sz (by simp)
end DL
namespace DL
open L2 PyProof.Rows PySem PySem.Spec
variable [TabT]
section
variable {K : PySem.W.Frag}
/-! ### order -/
def rLtS : R2 := fun x y H Q => ∃ i j, x = .str i ∧ y = .str j ∧ Q (.bl (decide (i.cps.toList < j.cps.toList))) H
def rLeS : R2 := fun x y H Q => ∃ i j, x = .str i ∧ y = .str j ∧ Q (.bl (!decide (j.cps.toList < i.cps.toList))) H
def dLt : D → D → Option D
  | .int i, .int j => some (.bl (decide (i < j)))
  | .str x, .str y => some (.bl (decide (x.cps.toList < y.cps.toList)))
  | _, _ => none
def dLe : D → D → Option D
  | .int i, .int j => some (.bl (decide (i ≤ j)))
  | .str x, .str y => some (.bl (!decide (y.cps.toList < x.cps.toList)))
  | _, _ => none
def dGt : D → D → Option D
  | .int i, .int j => some (.bl (decide (j < i)))
  | _, _ => none
def dGe : D → D → Option D
  | .int i, .int j => some (.bl (decide (j ≤ i)))
  | _, _ => none
theorem op_ltD {X : Cx} : OpR X (compareOp .Lt) (fun x y H Q => rI0 (fun i j => .bl (decide (i < j))) x y H Q ∨ rLtS x y H Q) := OpR_or op_lt op_lt_str
theorem op_leD {X : Cx} : OpR X (compareOp .LtE) (fun x y H Q => rI0 (fun i j => .bl (decide (i ≤ j))) x y H Q ∨ rLeS x y H Q) := OpR_or op_le op_le_str
theorem ok_lt : OpG K (fun x y H Q => rI0 (fun i j => .bl (decide (i < j))) x y H Q ∨ rLtS x y H Q) dLt := fun Z ρ H x y dx dy d Q sz hx hy hd gr => by
  unfold dLt at hd
  split at hd
  · cases hd; rw [rep_int] at hx hy; exact .inl ⟨_, _, hx, hy, gr.now sz (by simp)⟩
  · cases hd; rw [rep_str] at hx hy; exact .inr ⟨_, _, hx, hy, gr.now sz (by simp)⟩
  · cases hd
theorem ok_le : OpG K (fun x y H Q => rI0 (fun i j => .bl (decide (i ≤ j))) x y H Q ∨ rLeS x y H Q) dLe := fun Z ρ H x y dx dy d Q sz hx hy hd gr => by
  unfold dLe at hd
  split at hd
  · cases hd; rw [rep_int] at hx hy; exact .inl ⟨_, _, hx, hy, gr.now sz (by simp)⟩
  · cases hd; rw [rep_str] at hx hy; exact .inr ⟨_, _, hx, hy, gr.now sz (by simp)⟩
  · cases hd
theorem ok_gt : OpG K (rI0 fun i j => .bl (decide (j < i))) dGt := fun Z ρ H x y dx dy d Q sz hx hy hd gr => by
  unfold dGt at hd
  split at hd
  · cases hd; rw [rep_int] at hx hy; exact ⟨_, _, hx, hy, gr.now sz (by simp)⟩
  · cases hd
theorem ok_ge : OpG K (rI0 fun i j => .bl (decide (j ≤ i))) dGe := fun Z ρ H x y dx dy d Q sz hx hy hd gr => by
  unfold dGe at hd
  split at hd
  · cases hd; rw [rep_int] at hx hy; exact ⟨_, _, hx, hy, gr.now sz (by simp)⟩
  · cases hd
/-! ### is None -/
def isNon : D → Bool
  | .non => true
  | _ => false
theorem rep_isNon {Z : Addr → Prop} {ρ : List Addr} {H : Hp} {d : D} {v : V} (h : Rep K Z ρ H d v) : decide (v = .non) = isNon d := by
  cases d with
  | non => rw [rep_non] at h; subst h; rfl
  | bl b => rw [rep_bool] at h; subst h; rfl
  | int i => rw [rep_int] at h; subst h; rfl
  | str x => rw [rep_str] at h; subst h; rfl
  | tup ds => obtain ⟨a, vs, e, _⟩ := rep_tup.mp h; subst e; rfl
  | lst ds => obtain ⟨a, vs, e, _⟩ := rep_lst.mp h; subst e; rfl
  | dic t ks ds => simp only [DL.Rep] at h; obtain ⟨a, vs, e, _⟩ := h; subst e; rfl
  | ref n => simp only [DL.Rep] at h; obtain ⟨a, e, _⟩ := h; subst e; rfl
def dIsN : D → D → Option D := fun x y => match y with
  | .non => some (.bl (isNon x))
  | _ => none
def dNotN : D → D → Option D := fun x y => match y with
  | .non => some (.bl (!isNon x))
  | _ => none
theorem ok_isN : OpG K (fun x y H Q => y = .non ∧ Q (.bl (decide (x = .non))) H) dIsN := fun Z ρ H x y dx dy d Q sz hx hy hd gr => by
  unfold dIsN at hd
  split at hd
  · cases hd
    rw [rep_non] at hy
    rw [rep_isNon hx]
    exact ⟨hy, gr.now sz (by simp)⟩
  · cases hd
theorem ok_notN : OpG K (fun x y H Q => y = .non ∧ Q (.bl (!decide (x = .non))) H) dNotN := fun Z ρ H x y dx dy d Q sz hx hy hd gr => by
  unfold dNotN at hd
  split at hd
  · cases hd
    rw [rep_non] at hy
    rw [rep_isNon hx]
    exact ⟨hy, gr.now sz (by simp)⟩
  · cases hd
/-! ### in -/
def rInT (K : PySem.W.Frag) (neg : Bool) : R2 := fun x y H Q => ∃ d ds, Dp K H x d ∧ (Dp K H y (.list ds) ∨ Dp K H y (.tuple ds)) ∧ SeqAt.shaped d = true ∧ PyData.canLayAll0 ds = true ∧ PyData.depthAll ds ≤ 63 ∧ Q (.bl (if neg then !(ds.any fun z => PyData.eqv z d) else ds.any fun z => PyData.eqv z d)) H
theorem op_inT {X : Cx} (hu : X.A.units + 64 < cLine) : OpR X (compareOp .In) (rInT X.K false) := by
  intro pins s σ H x y v u Q I rx ry h
  obtain ⟨d, ds, hd, he, sd, cl, dp, q⟩ := h
  obtain ⟨as, r1⟩ := Dp.reads I d x v hd rx
  have hm : X.A.units + 1 + min (PyData.depthAll ds) d.depth < cLine := by
    have := Nat.min_le_left (PyData.depthAll ds) d.depth
    omega
  rcases he with he | he
  · obtain ⟨bs, r2⟩ := Dp.reads I (.list ds) y u he ry
    exact SeqAt.in_list_reads r2 r1 cl (SeqAt.canLay_of_shaped sd) hm ⟨.bl _, H, I, rfl, q⟩
  · obtain ⟨bs, r2⟩ := Dp.reads I (.tuple ds) y u he ry
    exact SeqAt.in_tuple_reads r2 r1 cl (SeqAt.canLay_of_shaped sd) hm ⟨.bl _, H, I, rfl, q⟩
theorem op_notInT {X : Cx} (hu : X.A.units + 64 < cLine) : OpR X (compareOp .NotIn) (rInT X.K true) := by
  intro pins s σ H x y v u Q I rx ry h
  obtain ⟨d, ds, hd, he, sd, cl, dp, q⟩ := h
  obtain ⟨as, r1⟩ := Dp.reads I d x v hd rx
  have hm : X.A.units + 1 + min (PyData.depthAll ds) d.depth < cLine := by
    have := Nat.min_le_left (PyData.depthAll ds) d.depth
    omega
  rcases he with he | he
  · obtain ⟨bs, r2⟩ := Dp.reads I (.list ds) y u he ry
    exact SeqAt.notIn_list_reads r2 r1 cl (SeqAt.canLay_of_shaped sd) hm ⟨.bl _, H, I, rfl, q⟩
  · obtain ⟨bs, r2⟩ := Dp.reads I (.tuple ds) y u he ry
    exact SeqAt.notIn_tuple_reads r2 r1 cl (SeqAt.canLay_of_shaped sd) hm ⟨.bl _, H, I, rfl, q⟩
/-- in a dict -/
def rInDic (neg : Bool) : R2 := fun y x H Q => ∃ a o, x = .ref a ∧ DGet H a y o ∧ Q (.bl (if neg then !o.isSome else o.isSome)) H
theorem op_inDic {X : Cx} (hu : X.A.units + 1 < cLine) : OpR X (compareOp .In) (rInDic false) := by
  intro pins s σ H y x iv u Q I ry rx h
  obtain ⟨a, o, ex, g, q⟩ := h
  subst ex
  obtain rfl : u = Value.ref a := rx
  exact d_in hu I g ry fun s3 I3 => ⟨.bl o.isSome, H, I3, rfl, q⟩
theorem op_notInDic {X : Cx} (hu : X.A.units + 1 < cLine) : OpR X (compareOp .NotIn) (rInDic true) := by
  intro pins s σ H y x iv u Q I ry rx h
  obtain ⟨a, o, ex, g, q⟩ := h
  subst ex
  obtain rfl : u = Value.ref a := rx
  exact d_notIn hu I g ry fun s3 I3 => ⟨.bl (!o.isSome), H, I3, rfl, q⟩
/-- what may be a key -/
def isIS : D → Bool
  | .int _ | .str _ => true
  | _ => false
def keyOkD (t : Bool) : D → Bool
  | .int _ | .str _ => !t
  | .tup ds => t && ds.all isIS
  | _ => false
def toKey : D → Key
  | .str x => .inr x
  | .int i => .inl i
  | _ => .inl 0
theorem keyD_toKey {d : D} (h : isIS d = true) : keyD (toKey d) = d := by
  cases d <;> simp [isIS] at h <;> rfl
theorem keyD_inj {a b : Key} (h : keyD a = keyD b) : a = b := by
  cases a <;> cases b <;> simp [keyD] at h <;> rw [h]
theorem rep_keyD {Z : Addr → Prop} {ρ : List Addr} {H : Hp} {k : Key} {v : V} : Rep K Z ρ H (keyD k) v ↔ v = kV k := by
  cases k <;> simp [keyD, kV]
theorem reps_keyD {Z : Addr → Prop} {ρ : List Addr} {H : Hp} : ∀ {ks : List Key} {vs : List V}, Reps K Z ρ H (ks.map keyD) vs → vs = ks.map kV
  | [], vs, h => by simpa only [List.map_nil, DL.Reps] using h
  | k :: ks, vs, h => by
    simp only [List.map_cons, DL.Reps] at h
    obtain ⟨v, ws, e, h1, h2⟩ := h
    rw [e, rep_keyD.mp h1, reps_keyD h2]
    rfl
theorem map_keyD_toKey : ∀ {ds : List D}, ds.all isIS = true → (ds.map toKey).map keyD = ds
  | [], _ => rfl
  | d :: ds, h => by
    simp only [List.all_cons, Bool.and_eq_true] at h
    simp only [List.map_cons, keyD_toKey h.1, map_keyD_toKey h.2]
/-- equal keys -/
def keq : D → D → Bool
  | .int i, .int j => i == j
  | .str x, .str y => x == y
  | .tup xs, .tup ys => keqs xs ys
  | _, _ => false
where keqs : List D → List D → Bool
  | [], [] => true
  | .int i :: xs, .int j :: ys => (i == j) && keqs xs ys
  | .str x :: xs, .str y :: ys => (x == y) && keqs xs ys
  | _, _ => false
theorem keqs_iff : ∀ {xs ys : List D}, xs.all isIS = true → (keq.keqs xs ys = true ↔ xs = ys)
  | [], [], _ => by simp [keq.keqs]
  | [], _ :: _, _ => by simp [keq.keqs]
  | x :: xs, [], h => by cases x <;> simp [keq.keqs]
  | x :: xs, y :: ys, h => by
    simp only [List.all_cons, Bool.and_eq_true] at h
    have ih := keqs_iff (xs := xs) (ys := ys) h.2
    cases x <;> simp [isIS] at h <;> cases y <;> simp [keq.keqs, ih]
theorem keq_iff {t : Bool} {x y : D} (h : keyOkD t x = true) : keq x y = true ↔ x = y := by
  cases x <;> simp [keyOkD] at h <;> cases y <;> simp [keq]
  exact keqs_iff (by simpa using h.2)
def dLook : List D → List D → D → Option D
  | k :: ks, v :: vs, x => if keq x k then some v else dLook ks vs x
  | _, _, _ => none
theorem dLook_K : ∀ {kvs : List (Key × V)} {ds : List D} {k : Key} {Z : Addr → Prop} {ρ : List Addr} {H : Hp}, Reps K Z ρ H ds (kvs.map (·.2)) →
    (dLook (kvs.map fun p => keyD p.1) ds (keyD k) = none ∧ valV kvs k = none) ∨ ∃ d v, dLook (kvs.map fun p => keyD p.1) ds (keyD k) = some d ∧ valV kvs k = some v ∧ Rep K Z ρ H d v
  | [], ds, k, Z, ρ, H, h => by
    cases ds with
    | nil => exact .inl ⟨rfl, rfl⟩
    | cons d ds => simp [DL.Reps] at h
  | (j, u) :: kvs, ds, k, Z, ρ, H, h => by
    cases ds with
    | nil => simp [DL.Reps] at h
    | cons d ds =>
      simp only [List.map_cons, DL.Reps] at h
      obtain ⟨v, ws, e, h1, h2⟩ := h
      cases e
      have ok : keyOkD false (keyD k) = true := by cases k <;> rfl
      by_cases ek : j = k
      · subst ek
        refine .inr ⟨d, u, ?_, valV_pos rfl, h1⟩
        simp only [List.map_cons, dLook]
        rw [if_pos ((keq_iff ok).mpr rfl)]
      · have ne : ¬ keq (keyD k) (keyD j) = true := fun z => ek (keyD_inj ((keq_iff ok).mp z)).symm
        have e1 : dLook (((j, u) :: kvs).map fun p => keyD p.1) (d :: ds) (keyD k) = dLook (kvs.map fun p => keyD p.1) ds (keyD k) := by
          simp only [List.map_cons, dLook]
          rw [if_neg ne]
        rw [e1, valV_neg ek]
        exact dLook_K h2
theorem dLook_T : ∀ {kvs : List (List Key × V)} {ds : List D} {k : List Key} {Z : Addr → Prop} {ρ : List Addr} {H : Hp}, Reps K Z ρ H ds (kvs.map (·.2)) →
    (dLook (kvs.map fun p => D.tup (p.1.map keyD)) ds (.tup (k.map keyD)) = none ∧ valV kvs k = none) ∨ ∃ d v, dLook (kvs.map fun p => D.tup (p.1.map keyD)) ds (.tup (k.map keyD)) = some d ∧ valV kvs k = some v ∧ Rep K Z ρ H d v
  | [], ds, k, Z, ρ, H, h => by
    cases ds with
    | nil => exact .inl ⟨rfl, rfl⟩
    | cons d ds => simp [DL.Reps] at h
  | (j, u) :: kvs, ds, k, Z, ρ, H, h => by
    cases ds with
    | nil => simp [DL.Reps] at h
    | cons d ds =>
      simp only [List.map_cons, DL.Reps] at h
      obtain ⟨v, ws, e, h1, h2⟩ := h
      cases e
      have all : ∀ l : List Key, (l.map keyD).all isIS = true := fun l => by
        rw [List.all_map, List.all_eq_true]
        intro x _
        cases x <;> rfl
      have ok : keyOkD true (.tup (k.map keyD)) = true := by simp only [keyOkD, all, Bool.and_self]
      by_cases ek : j = k
      · subst ek
        refine .inr ⟨d, u, ?_, valV_pos rfl, h1⟩
        simp only [List.map_cons, dLook]
        rw [if_pos ((keq_iff ok).mpr rfl)]
      · have inj : ∀ {a b : List Key}, a.map keyD = b.map keyD → a = b := fun {a b} h => by
          induction a generalizing b with
          | nil => cases b with
            | nil => rfl
            | cons _ _ => cases h
          | cons x a ih => cases b with
            | nil => cases h
            | cons y b =>
              simp only [List.map_cons, List.cons.injEq] at h
              rw [keyD_inj h.1, ih h.2]
        have ne : ¬ keq (.tup (k.map keyD)) (.tup (j.map keyD)) = true := fun z => ek (inj (D.tup.inj ((keq_iff ok).mp z))).symm
        have e1 : dLook (((j, u) :: kvs).map fun p => D.tup (p.1.map keyD)) (d :: ds) (.tup (k.map keyD)) = dLook (kvs.map fun p => D.tup (p.1.map keyD)) ds (.tup (k.map keyD)) := by
          simp only [List.map_cons, dLook]
          rw [if_neg ne]
        rw [e1, valV_neg ek]
        exact dLook_T h2
/-- what a look into a dict gives -/
theorem dic_get {Z : Addr → Prop} {ρ : List Addr} {H : Hp} {a : Addr} {t : Bool} {ks ds : List D} {ws : List V} {x : D} {y : V} (h : DicAt H a t ks ws) (hr : Reps K Z ρ H ds ws) (hk : keyOkD t x = true) (hy : Rep K Z ρ H x y) :
    (dLook ks ds x = none ∧ DGet H a y none) ∨ ∃ d v, dLook ks ds x = some d ∧ DGet H a y (some v) ∧ Rep K Z ρ H d v := by
  rcases h with ⟨et, kvs, h, ek, ew⟩ | ⟨et, kvs, h, ek, ew⟩
  · subst et; subst ek; subst ew
    obtain ⟨k, rfl⟩ : ∃ k, x = keyD k := by
      cases x <;> simp [keyOkD] at hk
      · exact ⟨.inl _, rfl⟩
      · exact ⟨.inr _, rfl⟩
    obtain rfl := rep_keyD.mp hy
    rcases dLook_K (k := k) hr with ⟨h1, h2⟩ | ⟨d, v, h1, h2, h3⟩
    · exact .inl ⟨h1, h2 ▸ DGet.k h⟩
    · exact .inr ⟨d, v, h1, h2 ▸ DGet.k h, h3⟩
  · subst et; subst ek; subst ew
    cases x <;> simp [keyOkD] at hk
    rename_i xs
    obtain ⟨b, vs, e, h1, h2⟩ := rep_tup.mp hy
    subst e
    have e := map_keyD_toKey (ds := xs) (by simpa using hk)
    rw [← e] at h2 ⊢
    obtain rfl := reps_keyD h2
    rcases dLook_T (k := xs.map toKey) hr with ⟨k1, k2⟩ | ⟨d, v, k1, k2, k3⟩
    · exact .inl ⟨k1, k2 ▸ DGet.t h h1⟩
    · exact .inr ⟨d, v, k1, k2 ▸ DGet.t h h1, k3⟩
/-- x in y -/
def dIn (neg : Bool) (x : D) : D → Option D
  | .lst ds => if lay 64 x && lays 63 ds then some (.bl (if neg then !(ds.any fun z => deq z x) else ds.any fun z => deq z x)) else none
  | .tup ds => if lay 64 x && lays 63 ds then some (.bl (if neg then !(ds.any fun z => deq z x) else ds.any fun z => deq z x)) else none
  | .dic t ks vs => if keyOkD t x then some (.bl (if neg then !(dLook ks vs x).isSome else (dLook ks vs x).isSome)) else none
  | _ => none
theorem any_py {x : D} (n m : Nat) (hx : lay m x = true) : ∀ (ds : List D), lays n ds = true → (toPys ds).any (fun z => PyData.eqv z (toPy x)) = ds.any fun z => deq z x
  | [], _ => rfl
  | d :: ds, h => by
    simp only [lays, Bool.and_eq_true] at h
    simp only [toPys, List.any_cons, deq_py n m d x h.1 hx, any_py n m hx ds h.2]
theorem ok_in {neg : Bool} : OpG K (fun x y H Q => rInT K neg x y H Q ∨ rInDic neg x y H Q) (dIn neg) := fun Z ρ H x y dx dy d Q sz hx hy hd gr => by
  unfold dIn at hd
  split at hd
  · rename_i ds
    obtain ⟨hl, e⟩ := ite_some hd
    simp only [Bool.and_eq_true] at hl
    subst e
    obtain ⟨a, vs, e, h1, h2⟩ := rep_lst.mp hy
    obtain ⟨c1, c2⟩ := lays_py 63 ds hl.2
    subst e
    refine .inl ⟨toPy dx, toPys ds, Rep.dp 64 dx x hl.1 hx, .inl (.lst h1.sq (Reps.dp 63 ds vs hl.2 h2)), lay_shaped hl.1, c1, c2, ?_⟩
    rw [any_py 63 64 hl.1 ds hl.2]
    exact gr.now sz (by simp)
  · rename_i ds
    obtain ⟨hl, e⟩ := ite_some hd
    simp only [Bool.and_eq_true] at hl
    subst e
    obtain ⟨a, vs, e, h1, h2⟩ := rep_tup.mp hy
    obtain ⟨c1, c2⟩ := lays_py 63 ds hl.2
    subst e
    refine .inl ⟨toPy dx, toPys ds, Rep.dp 64 dx x hl.1 hx, .inr (.tup h1.sq (Reps.dp 63 ds vs hl.2 h2)), lay_shaped hl.1, c1, c2, ?_⟩
    rw [any_py 63 64 hl.1 ds hl.2]
    exact gr.now sz (by simp)
  · rename_i t ks ds
    obtain ⟨hl, e⟩ := ite_some hd
    subst e
    simp only [DL.Rep] at hy
    obtain ⟨a, vs, e, hz, h1, h2⟩ := hy
    subst e
    rcases dic_get h1 h2 hl hx with ⟨k1, k2⟩ | ⟨d', v, k1, k2, k3⟩
    · refine .inr ⟨a, none, rfl, k2, ?_⟩
      rw [k1] at gr
      exact gr.now sz (by simp)
    · refine .inr ⟨a, some v, rfl, k2, ?_⟩
      rw [k1] at gr
      exact gr.now sz (by simp)
  · cases hd
/-! ### subscripts -/
def IxD (X : Cx) (r : R2) : Prop := IxR X r
def rIxDic : R2 := fun x y H Q => ∃ a v, x = .ref a ∧ DGet H a y (some v) ∧ Q v H
theorem ix_dic {X : Cx} (hu : X.A.units + 1 < cLine) : IxR X rIxDic := by
  intro value slice pins s σ H x y v u Q I rx ry h hs
  obtain ⟨a, z, ex, g, q⟩ := h
  subst ex
  obtain rfl : v = Value.ref a := rx
  exact tail_any (dict_typeIs I g) PySem.F.slot_dict_getitem.lookup (d_getItem hu I g ry fun w' s3 I3 rw' => ⟨z, H, I3, rw', q⟩) hs
def dIdx : D → D → Option D
  | .lst ds, .int i => atI ds i
  | .tup ds, .int i => atI ds i
  | .str x, .int i => if x.length ≤ sizeLine then (atI x.cps.toList i).map fun c => .str ⟨#[c]⟩ else none
  | .dic t ks vs, x => if keyOkD t x then dLook ks vs x else none
  | _, _ => none
theorem ixN_eq {n m : Nat} (h : n = m) (i : Int) : ixN n i = ixN m i := by rw [h]
theorem reps_at {Z : Addr → Prop} {ρ : List Addr} {H : Hp} {ds : List D} {vs : List V} {i : Int} {d : D} (h : Reps K Z ρ H ds vs) (e : atI ds i = some d) : ∃ v, atI vs i = some v ∧ Rep K Z ρ H d v := by
  unfold atI at e ⊢
  rw [ixN_eq h.length]
  cases hj : ixN ds.length i with
  | none => rw [hj] at e; cases e
  | some j =>
    rw [hj] at e
    exact Reps.get h e
def rIxAll (K : PySem.W.Frag) : R2 := fun x y H Q => rIx K x y H Q ∨ rIxDic x y H Q
theorem ok_idx : OpG K (rIxAll K) dIdx := fun Z ρ H x y dx dy d Q sz hx hy hd gr => by
  unfold dIdx at hd
  split at hd
  · rw [rep_int] at hy
    obtain ⟨a, vs, e, h1, h2⟩ := rep_lst.mp hx
    obtain ⟨v, k1, k2⟩ := reps_at h2 hd
    exact .inl (.inl ⟨a, vs, _, v, e, hy, h1.sq, k1, gr.now sz k2⟩)
  · rw [rep_int] at hy
    obtain ⟨a, vs, e, h1, h2⟩ := rep_tup.mp hx
    obtain ⟨v, k1, k2⟩ := reps_at h2 hd
    exact .inl (.inr (.inl ⟨a, vs, _, v, e, hy, h1.sq, k1, gr.now sz k2⟩))
  · rw [rep_int] at hy
    rw [rep_str] at hx
    split at hd
    · rename_i hl
      cases hc : atI (Str.cps _).toList _ with
      | none => rw [hc] at hd; cases hd
      | some c =>
        rw [hc] at hd
        cases hd
        exact .inl (.inr (.inr ⟨_, _, c, hx, hy, hl, hc, gr.now sz (by simp)⟩))
    · cases hd
  · rename_i t ks ds _
    split at hd
    · rename_i hl
      simp only [DL.Rep] at hx
      obtain ⟨a, vs, e, hz, h1, h2⟩ := hx
      rcases dic_get h1 h2 hl hy with ⟨k1, k2⟩ | ⟨d', v, k1, k2, k3⟩
      · rw [k1] at hd; cases hd
      · rw [k1] at hd; cases hd
        exact .inr ⟨a, v, e, k2, gr.now sz k3⟩
    · cases hd
  · cases hd
end
section
variable {X : Cx} {C : Cfg} {a b e : Expr} {fa fb : PF} {f g : ES D} {pos p2 : Pos}
theorem dp_idx (hu : X.A.units + 64 < cLine) (ha : DP X C a fa) (hb : DP X C b fb) (hs : PlainIx b := by intro _ _; rfl) : DP X C (.Subscript a b pos) (pOp dIdx fa fb) :=
  PE_imp (pe_ix (ix_seq.or (ix_dic (by omega))) ha hb hs) (two_pure ok_idx)
theorem de_idx (hu : X.A.units + 64 < cLine) (ha : DE X C a f) (hb : DE X C b g) (hs : PlainIx b := by intro _ _; rfl) : DE X C (.Subscript a b pos) (eOpP dIdx f g) :=
  PE_imp (pe_ix (ix_seq.or (ix_dic (by omega))) ha hb hs) (two_of ok_idx.ok)
/-! ### slices -/
def dCut (ds : List D) (lo hi : Option Int) : List D := (ds.drop (HT.sIx ds.length 0 lo)).take (HT.sIx ds.length ds.length hi - HT.sIx ds.length 0 lo)
end
end DL
namespace DL
open L2 PyProof.Rows PySem PySem.Spec
variable [TabT]
/-! ### slices -/
section
variable {K : PySem.W.Frag}
theorem Reps.drop {Z : Addr → Prop} {ρ : List Addr} {H : Hp} : ∀ {n : Nat} {ds : List D} {vs : List V}, Reps K Z ρ H ds vs → Reps K Z ρ H (ds.drop n) (vs.drop n)
  | 0, _, _, h => h
  | n + 1, [], vs, h => by simp only [DL.Reps] at h; subst h; simp only [List.drop_nil, DL.Reps]
  | n + 1, d :: ds, vs, h => by
    simp only [DL.Reps] at h
    obtain ⟨v, ws, e, _, h⟩ := h
    subst e
    exact Reps.drop (n := n) h
theorem Reps.take {Z : Addr → Prop} {ρ : List Addr} {H : Hp} : ∀ {n : Nat} {ds : List D} {vs : List V}, Reps K Z ρ H ds vs → Reps K Z ρ H (ds.take n) (vs.take n)
  | 0, _, _, h => by simp only [List.take_zero, DL.Reps]
  | n + 1, [], vs, h => by simp only [DL.Reps] at h; subst h; simp only [List.take_nil, DL.Reps]
  | n + 1, d :: ds, vs, h => by
    simp only [DL.Reps] at h
    obtain ⟨v, ws, e, h1, h⟩ := h
    subst e
    simp only [List.take_succ_cons, DL.Reps]
    exact ⟨v, _, rfl, h1, Reps.take (n := n) h⟩
theorem Reps.cut {Z : Addr → Prop} {ρ : List Addr} {H : Hp} {ds : List D} {vs : List V} {lo hi : Option Int} (h : Reps K Z ρ H ds vs) : Reps K Z ρ H (dCut ds lo hi) (cutV vs lo hi) := by
  unfold dCut cutV
  rw [h.length]
  exact Reps.take (Reps.drop h)
def dSl : D → Option Int → Option Int → Option D
  | .lst ds, lo, hi => some (.lst (dCut ds lo hi))
  | .tup ds, lo, hi => some (.tup (dCut ds lo hi))
  | .str x, lo, hi => if x.length ≤ sizeLine then some (.str (cutS x lo hi)) else none
  | _, _, _ => none
abbrev rSlAll (K : PySem.W.Frag) : V → Option Int → Option Int → Hp → VK → Prop := fun x lo hi H Q => rSlL K x lo hi H Q ∨ (rSlA K x lo hi H Q ∨ rSlS x lo hi H Q)
theorem sl_all {X : Cx} : SlR X (rSlAll X.K) := sl_list.or (sl_tupA.or sl_str)
theorem sIx_len (n : Nat) (o : Option Int) (h : HT.sIx n 0 o = 0) : n - HT.sIx n 0 o = n := by omega
theorem ok_sl {Z : Addr → Prop} {ρ : List Addr} {H : Hp} {x : V} {dx d : D} {lo hi : Option Int} {Q : VK} (sz : SzH H) (hx : Rep K Z ρ H dx x) (hd : dSl dx lo hi = some d) (gr : Grown K Z ρ H d Q) : rSlAll K x lo hi H Q := by
  unfold dSl at hd
  split at hd
  · cases hd
    obtain ⟨a, vs, e, h1, h2⟩ := rep_lst.mp hx
    exact .inl ⟨a, vs, e, h1.sq, fun p hp => gr.lst sz h2.cut (Nat.le_trans (cutV_length _ _ _) (fzL_len sz h1)) hp⟩
  · cases hd
    obtain ⟨a, vs, e, h1, h2⟩ := rep_tup.mp hx
    refine .inr (.inl ⟨a, vs, e, h1.sq, fun hw => ?_, fun _ p hp => gr.tup sz h2.cut (Nat.le_trans (cutV_length _ _ _) (tpT_len sz h1)) hp⟩)
    refine gr.now sz (rep_tup.mpr ⟨a, vs, rfl, h1, ?_⟩)
    have e2 : cutV vs lo hi = vs := by
      unfold cutV
      rw [hw.1, hw.2, List.drop_zero, Nat.sub_zero, List.take_length]
    have := h2.cut (lo := lo) (hi := hi)
    rw [e2] at this
    exact this
  · obtain ⟨hl, e⟩ := ite_some hd
    subst e
    rw [rep_str] at hx
    exact .inr (.inr ⟨_, hx, hl, gr.now sz (by simp)⟩)
  · cases hd
end
/-- a part of a slice -/
def pNoP : EV → Sto → Option (Option Int) := fun _ _ => some none
def pPt (f : PF) : EV → Sto → Option (Option Int) := fun ε S => (f ε S).bind fun d => match d with
  | .int i => some (some i)
  | _ => none
def tPO (K : PySem.W.Frag) (C : Cfg) (f : EV → Sto → Option (Option Int)) : TO := fun σ H Q => ∃ (w : Ws) (o : Option Int), w.σ = σ ∧ w.H = H ∧ RelC K C w ∧ f w.ε w.S = some o ∧
  ∀ (H' : Hp) (N : Addr → Prop), Same w.H H' → SzH H' → (∀ a, N a → w.H a = none ∧ ∃ o, H' a = some o) → Q o H'
def DPO (X : Cx) (C : Cfg) (e : Option Expr) (f : EV → Sto → Option (Option Int)) : Prop := PO X e (tPO X.K C f)
theorem PO_imp {X : Cx} {e : Option Expr} {t t' : TO} (h : PO X e t) (i : ∀ σ H Q, t' σ H Q → t σ H Q) : PO X e t' := ⟨fun pins s σ H Q I q => h.run pins s σ H Q I (i σ H Q q)⟩
section
variable {X : Cx} {C : Cfg} {a b c e : Expr} {es rest : List Expr} {fa fb : PF} {f g : ES D} {pos p2 : Pos} {lo hi : Option Expr} {fl fh : EV → Sto → Option (Option Int)}
theorem dpo_none : DPO X C none pNoP := PO_imp po_none fun σ H Q ⟨w, o, e1, e2, rl, hf, q⟩ => by
  subst e2
  cases hf
  exact q w.H (fun _ => False) (Same.refl _) rl.sz (fun _ z => z.elim)
theorem dpo_some (h : DP X C e fa) : DPO X C (some e) (pPt fa) := PO_imp (po_some h) fun σ H Q ⟨w, o, e1, e2, rl, hf, q⟩ => by
  obtain ⟨d, h1, hf⟩ := bind_some hf
  refine ⟨w, d, e1, e2, rl, h1, fun v H' N s sz n hv => ?_⟩
  split at hf
  · cases hf
    exact ⟨_, rep_int.mp hv, q H' N s sz n⟩
  · cases hf
def pSl (f : PF) (lo hi : EV → Sto → Option (Option Int)) : PF := fun ε S => (f ε S).bind fun d => (lo ε S).bind fun l => (hi ε S).bind fun h => dSl d l h
theorem dp_slice (ha : DP X C a fa) (hl : DPO X C lo fl) (hh : DPO X C hi fh) : DP X C (.Subscript a (.Slice lo hi none p2) pos) (pSl fa fl fh) := PE_imp (pe_slice sl_all ha hl hh) fun σ H Q ⟨w, d, e1, e2, rl, hf, g⟩ => by
  subst e1; subst e2
  obtain ⟨dx, h1, hf⟩ := bind_some hf
  obtain ⟨l, h2, hf⟩ := bind_some hf
  obtain ⟨h, h3, hf⟩ := bind_some hf
  refine tP.then rl h1 fun x H1 N1 s1 r1 n1 hx => ?_
  refine ⟨w.gr H1 N1, l, rfl, rfl, r1, h2, fun H2 N2 s2 sz2 n2 => ?_⟩
  obtain ⟨m2, r2⟩ := r1.gr s2 sz2 n2
  refine ⟨(w.gr H1 N1).gr H2 N2, h, rfl, rfl, r2, h3, fun H3 N3 s3 sz3 n3 => ?_⟩
  refine ok_sl (Z := ((w.gr H1 N1).ZL)) sz3 (Rep.same (s2.trans s3) (fun a z => z) hx) hf ?_
  exact fun v H4 N4 s4 sz4 n4 hv => g v H4 (fun a => ((N1 a ∨ N2 a) ∨ N3 a) ∨ N4 a) (((s1.trans s2).trans s3).trans s4) sz4
    (grow2 ((s1.trans s2).trans s3) (grow2 (s1.trans s2) (grow2 s1 n1 s2 n2) s3 n3) s4 n4)
    (Rep.same (Same.refl _) (fun a z => by rcases z with ((z | z) | z) | z; exact .inl (.inl z); exact .inr (.inl (.inl (.inl z))); exact .inl (.inr z); exact .inr (.inr z)) hv)
/-- with changes -/
def eSl (f : ES D) (lo hi : EV → Sto → Option (Option Int)) : ES D := fun ε S => (f ε S).bind fun d ε S => R.opt ((lo ε S).bind fun l => (hi ε S).bind fun h => dSl d l h) ε S
theorem de_slice (ha : DE X C a f) (hl : DPO X C lo fl) (hh : DPO X C hi fh) : DE X C (.Subscript a (.Slice lo hi none p2) pos) (eSl f fl fh) := PE_imp (pe_slice sl_all ha hl hh) fun σ H Q ⟨w, e1, e2, rl, q⟩ => by
  refine ⟨w, e1, e2, rl, POST.mono (POST.bind q) fun d w1 s1 m1 r1 ⟨_, _, _, q1⟩ v hv => ?_⟩
  obtain ⟨dd, hf, q2⟩ := POST.opt q1
  obtain ⟨l, h2, hf⟩ := bind_some hf
  obtain ⟨h, h3, hf⟩ := bind_some hf
  refine ⟨w1, l, s1.trans e1, rfl, r1, h2, fun H2 N2 s2 sz2 n2 => ?_⟩
  obtain ⟨m2, r2⟩ := r1.gr s2 sz2 n2
  refine ⟨w1.gr H2 N2, h, s1.trans e1, rfl, r2, h3, fun H3 N3 s3 sz3 n3 => ?_⟩
  obtain ⟨m3, r3⟩ := r2.gr s3 sz3 n3
  refine ok_sl (Z := ((w1.gr H2 N2).gr H3 N3).Z) (ρ := w1.ρ) sz3 (Rep.same (s2.trans s3) (fun a z => .inl (.inl z)) hv) hf fun v4 H4 N4 s4 sz4 n4 hv4 => ?_
  obtain ⟨m4, r4⟩ := r3.gr s4 sz4 n4
  have q3 := POST.at q2 ((m2.trans m3).trans m4) r4 rfl rfl rfl
  exact q3 v4 hv4
/-! ### displays -/
def eTup (f : ES (List D)) : ES D := fun ε S => (f ε S).bind fun ds ε S => .ok (.tup ds) ε S
def eLst (f : ES (List D)) : ES MO := fun ε S => (f ε S).bind fun ds ε S => .ok (.lst ds) ε S
theorem de_tup {k} {f : ES (List D)} {n : Nat} (h : DA X C es f) (hl : ∀ (ε : EV) (S : Sto) ds ε' S', f ε S = .ok ds ε' S' → ds.length = n) (hn : n ≤ sizeLine := by decide) : DE X C (.Tuple es k pos) (eTup f) := PE_imp (pe_tup h) fun σ H Q ⟨w, e1, e2, rl, q⟩ => by
  subst e1; subst e2
  refine ⟨w, rfl, rfl, rl, ?_⟩
  unfold eTup at q
  cases hr : f w.ε w.S with
  | ok ds ε S =>
    rw [hr] at q
    intro w1 k1 k2 k3 m1 r1 vs hv
    have hz : vs.length ≤ sizeLine := by rw [Reps.length hv, hl _ _ _ _ _ hr]; exact hn
    refine ⟨hz, fun p hp => ?_⟩
    have r2 := r1.lay (o := .tup vs) hp hz
    have q2 := POST.at q (m1.trans (Mono.lay hp)) r2 k1 k2 k3
    exact q2 _ (rep_tup.mpr ⟨p, vs, rfl, upd_same, Reps.mono ((Mono.lay hp).le r1.r) ds vs hv⟩)
  | ex c ε S => rw [hr] at q; exact q
  | stuck => rw [hr] at q; exact q
theorem df_lst {f : ES (List D)} {n : Nat} (h : DA X C es f) (hl : ∀ (ε : EV) (S : Sto) ds ε' S', f ε S = .ok ds ε' S' → ds.length = n) (hn : n ≤ sizeLine := by decide) : DF X C (.List es pos) (eLst f) := PE_imp (pe_lst h) fun σ H Q ⟨w, e1, e2, rl, q⟩ => by
  subst e1; subst e2
  refine ⟨w, rfl, rfl, rl, ?_⟩
  unfold eLst at q
  cases hr : f w.ε w.S with
  | ok ds ε S =>
    rw [hr] at q
    intro w1 k1 k2 k3 m1 r1 vs hv
    have hz : vs.length ≤ sizeLine := by rw [Reps.length hv, hl _ _ _ _ _ hr]; exact hn
    refine ⟨hz, fun p hp => ?_⟩
    have r2 := r1.lay (o := .lst vs) hp hz
    have q2 := POST.at q (m1.trans (Mono.lay hp)) r2 k1 k2 k3
    exact q2 p (m1.dom p hp) (Lone.of r1 hp) ⟨vs, upd_same, Reps.mono ((Mono.lay hp).le r1.r) ds vs hv⟩ (fun _ _ z => nomatch z)
  | ex c ε S => rw [hr] at q; exact q
  | stuck => rw [hr] at q; exact q
/-! ### truth -/
def dTru : D → Option Bool
  | .non => some false
  | .bl b => some b
  | .int i => some (i != 0)
  | .str x => if x.length ≤ sizeLine then some ((x.length : Int) != 0) else none
  | .lst ds => some (!ds.isEmpty)
  | .tup ds => some (!ds.isEmpty)
  | _ => none
theorem tru_of {K : PySem.W.Frag} {Z : Addr → Prop} {ρ : List Addr} {H : Hp} {d : D} {v : V} {b : Bool} (h : Rep K Z ρ H d v) (e : dTru d = some b) : TruV K v H b := by
  have emp : ∀ {ds : List D} {vs : List V}, Reps K Z ρ H ds vs → vs.isEmpty = ds.isEmpty := fun {ds vs} h => by
    have := h.length
    cases ds <;> cases vs <;> first | rfl | (simp at this)
  unfold dTru at e
  split at e
  · cases e; rw [rep_non] at h; subst h; rfl
  · cases e; rw [rep_bool] at h; subst h; rfl
  · cases e; rw [rep_int] at h; subst h; rfl
  · obtain ⟨hl, e⟩ := ite_some e
    subst e
    rw [rep_str] at h; subst h
    exact ⟨hl, rfl⟩
  · cases e
    obtain ⟨a, vs, e, h1, h2⟩ := rep_lst.mp h
    subst e
    exact .inl ⟨vs, h1.sq, by rw [emp h2]⟩
  · cases e
    obtain ⟨a, vs, e, h1, h2⟩ := rep_tup.mp h
    subst e
    exact .inr (.inl ⟨vs, h1.sq, by rw [emp h2]⟩)
  · cases e
def pTru (f : PF) : EV → Sto → Option Bool := fun ε S => (f ε S).bind dTru
theorem dpt_tru (ha : DP X C a fa) (he : ∀ whole, isTrue a X.env whole = (do let v ← whole; standAt a.pos; holding [v] (truthy v)) := by intro _; rfl) : DPT X C a (pTru fa) := PT_imp (pt_truth ha he) fun σ H Q ⟨w, b, e1, e2, rl, hf, q⟩ => by
  obtain ⟨d, h1, hf⟩ := bind_some hf
  exact ⟨w, d, e1, e2, rl, h1, fun v H' N s sz n hv => ⟨b, tru_of hv hf, q H' N s sz n⟩⟩
def tTruE (f : ES D) : ES Bool := fun ε S => (f ε S).bind fun d ε S => R.opt (dTru d) ε S
theorem dt_tru (ha : DE X C a f) (he : ∀ whole, isTrue a X.env whole = (do let v ← whole; standAt a.pos; holding [v] (truthy v)) := by intro _; rfl) : DT X C a (tTruE f) := PT_imp (pt_truth ha he) fun σ H Q ⟨w, e1, e2, rl, q⟩ => by
  refine ⟨w, e1, e2, rl, POST.mono (POST.bind q) fun d w1 s1 m1 r1 ⟨_, _, _, q1⟩ v hv => ?_⟩
  obtain ⟨k, ek, q2⟩ := POST.opt q1
  exact ⟨k, tru_of hv ek, POST.now r1 q2⟩
/-! ### and, or, not as tests -/
abbrev PB := EV → Sto → Option Bool
variable {ta tb : PB} {t u : ES Bool}
def DPW (X : Cx) (C : Cfg) (e : Expr) (f : PB) : Prop := PW X e (tPT X.K C f)
def DW (X : Cx) (C : Cfg) (e : Expr) (f : ES Bool) : Prop := PW X e (tT X.K C f)
theorem PW_imp {t t' : TT} (h : PW X e t) (i : ∀ σ H Q, t' σ H Q → t σ H Q) : PW X e t' := ⟨fun wh pins s σ H Q I q => h.run wh pins s σ H Q I (i σ H Q q)⟩
def pAnd (f g : PB) : PB := fun ε S => (f ε S).bind fun k => if k then g ε S else some false
def pOr (f g : PB) : PB := fun ε S => (f ε S).bind fun k => if k then some true else g ε S
def pNot (f : PB) : PB := fun ε S => (f ε S).map not
theorem dpw_and1 (h : DPT X C a ta) : DPW X C (.BoolOp .And [a] pos) ta := pw_and1 h
theorem dpw_or1 (h : DPT X C a ta) : DPW X C (.BoolOp .Or [a] pos) ta := pw_or1 h
theorem tPT.next {K : PySem.W.Frag} {w : Ws} {k : Bool} {Q : Bool → Hp → Prop} {H1 : Hp} {N1 : Addr → Prop} (rl : RelC K C w) (s1 : Same w.H H1) (sz1 : SzH H1) (n1 : ∀ a, N1 a → w.H a = none ∧ ∃ o, H1 a = some o) (hf : ta w.ε w.S = some k)
    (q : ∀ (H' : Hp) (N : Addr → Prop), Same w.H H' → SzH H' → (∀ a, N a → w.H a = none ∧ ∃ o, H' a = some o) → Q k H') : tPT K C ta w.σ H1 Q :=
  ⟨w.gr H1 N1, k, rfl, rfl, (rl.gr s1 sz1 n1).2, hf, fun H' N s sz n => q H' (fun a => N1 a ∨ N a) (s1.trans s) sz (grow2 s1 n1 s n)⟩
theorem dpw_and (h : DPT X C a ta) (h2 : DPW X C (.BoolOp .And (b :: rest) pos) tb) : DPW X C (.BoolOp .And (a :: b :: rest) pos) (pAnd ta tb) := PW_imp (pw_and h h2) fun σ H Q ⟨w, k, e1, e2, rl, hf, q⟩ => by
  subst e1; subst e2
  obtain ⟨j, h1, hf⟩ := bind_some hf
  refine ⟨w, j, rfl, rfl, rl, h1, fun H1 N1 s1 sz1 n1 => ?_⟩
  cases j with
  | true => rw [if_pos rfl] at hf ⊢; exact tPT.next rl s1 sz1 n1 hf q
  | false => rw [if_neg Bool.false_ne_true] at hf ⊢; cases hf; exact q H1 N1 s1 sz1 n1
theorem dpw_or (h : DPT X C a ta) (h2 : DPW X C (.BoolOp .Or (b :: rest) pos) tb) : DPW X C (.BoolOp .Or (a :: b :: rest) pos) (pOr ta tb) := PW_imp (pw_or h h2) fun σ H Q ⟨w, k, e1, e2, rl, hf, q⟩ => by
  subst e1; subst e2
  obtain ⟨j, h1, hf⟩ := bind_some hf
  refine ⟨w, j, rfl, rfl, rl, h1, fun H1 N1 s1 sz1 n1 => ?_⟩
  cases j with
  | true => rw [if_pos rfl] at hf ⊢; cases hf; exact q H1 N1 s1 sz1 n1
  | false => rw [if_neg Bool.false_ne_true] at hf ⊢; exact tPT.next rl s1 sz1 n1 hf q
theorem dpt_w (h : DPW X C e ta) : DPT X C e ta := PW.pt h
theorem dpt_not (h : DPT X C a ta) : DPT X C (.UnaryOp .Not a pos) (pNot ta) := PT_imp (pt_not h) fun σ H Q ⟨w, k, e1, e2, rl, hf, q⟩ => by
  unfold pNot at hf
  cases hk : ta w.ε w.S with
  | none => rw [hk] at hf; cases hf
  | some j =>
    rw [hk] at hf
    cases hf
    exact ⟨w, j, e1, e2, rl, hk, q⟩
def tAndE (f g : ES Bool) : ES Bool := fun ε S => (f ε S).bind fun k ε S => if k then g ε S else .ok false ε S
def tOrE (f g : ES Bool) : ES Bool := fun ε S => (f ε S).bind fun k ε S => if k then .ok true ε S else g ε S
def tNotE (f : ES Bool) : ES Bool := fun ε S => (f ε S).bind fun k ε S => .ok (!k) ε S
theorem dw_and1 (h : DT X C a t) : DW X C (.BoolOp .And [a] pos) t := pw_and1 h
theorem dw_or1 (h : DT X C a t) : DW X C (.BoolOp .Or [a] pos) t := pw_or1 h
theorem dw_and (h : DT X C a t) (h2 : DW X C (.BoolOp .And (b :: rest) pos) u) : DW X C (.BoolOp .And (a :: b :: rest) pos) (tAndE t u) := PW_imp (pw_and h h2) fun σ H Q ⟨w, e1, e2, rl, q⟩ => by
  refine ⟨w, e1, e2, rl, POST.mono (POST.bind q) fun k w1 s1 m1 r1 ⟨_, _, _, q1⟩ => ?_⟩
  cases k with
  | true => rw [if_pos rfl] at q1 ⊢; exact ⟨w1, s1.trans e1, rfl, r1, q1⟩
  | false => rw [if_neg Bool.false_ne_true] at q1 ⊢; exact POST.now r1 q1
theorem dw_or (h : DT X C a t) (h2 : DW X C (.BoolOp .Or (b :: rest) pos) u) : DW X C (.BoolOp .Or (a :: b :: rest) pos) (tOrE t u) := PW_imp (pw_or h h2) fun σ H Q ⟨w, e1, e2, rl, q⟩ => by
  refine ⟨w, e1, e2, rl, POST.mono (POST.bind q) fun k w1 s1 m1 r1 ⟨_, _, _, q1⟩ => ?_⟩
  cases k with
  | true => rw [if_pos rfl] at q1 ⊢; exact POST.now r1 q1
  | false => rw [if_neg Bool.false_ne_true] at q1 ⊢; exact ⟨w1, s1.trans e1, rfl, r1, q1⟩
theorem dt_w (h : DW X C e t) : DT X C e t := PW.pt h
theorem dt_not (h : DT X C a t) : DT X C (.UnaryOp .Not a pos) (tNotE t) := PT_imp (pt_not h) fun σ H Q ⟨w, e1, e2, rl, q⟩ => by
  exact ⟨w, e1, e2, rl, POST.mono (POST.bind q) fun k w1 s1 m1 r1 ⟨_, _, _, q1⟩ => POST.now r1 q1⟩
/-! ### as values -/
/-- a if t else b -/
def eIf (t : ES Bool) (f g : ES D) : ES D := fun ε S => (t ε S).bind fun k ε S => if k then f ε S else g ε S
theorem de_if (hc : DT X C c t) (ha : DE X C a f) (hb : DE X C b g) : DE X C (.IfExp c a b pos) (eIf t f g) := PE_imp (pe_ifExp hc ha hb) fun σ H Q ⟨w, e1, e2, rl, q⟩ => by
  refine ⟨w, e1, e2, rl, POST.mono (POST.bind q) fun k w1 s1 m1 r1 ⟨_, _, _, q1⟩ => ?_⟩
  cases k with
  | true => rw [if_pos rfl] at q1 ⊢; exact ⟨w1, s1.trans e1, rfl, r1, q1⟩
  | false => rw [if_neg Bool.false_ne_true] at q1 ⊢; exact ⟨w1, s1.trans e1, rfl, r1, q1⟩
def pIf (t : PB) (f g : PF) : PF := fun ε S => (t ε S).bind fun k => if k then f ε S else g ε S
theorem tP.next {K : PySem.W.Frag} {w : Ws} {d : D} {Q : VK} {H1 : Hp} {N1 : Addr → Prop} (rl : RelC K C w) (s1 : Same w.H H1) (sz1 : SzH H1) (n1 : ∀ a, N1 a → w.H a = none ∧ ∃ o, H1 a = some o) (hf : fa w.ε w.S = some d) (g : Grown K w.ZL w.ρ w.H d Q) : tP K C fa w.σ H1 Q := by
  refine ⟨w.gr H1 N1, d, rfl, rfl, (rl.gr s1 sz1 n1).2, hf, fun v H' N s sz n hv => ?_⟩
  exact g v H' (fun a => N1 a ∨ N a) (s1.trans s) sz (grow2 s1 n1 s n) (Rep.same (Same.refl _) (fun a z => by rcases z with ((z | z) | z) | z; exact .inl (.inl z); exact .inr (.inl z); exact .inl (.inr z); exact .inr (.inr z)) hv)
theorem dp_if (hc : DPT X C c ta) (ha : DP X C a fa) (hb : DP X C b fb) : DP X C (.IfExp c a b pos) (pIf ta fa fb) := PE_imp (pe_ifExp hc ha hb) fun σ H Q ⟨w, d, e1, e2, rl, hf, g⟩ => by
  subst e1; subst e2
  obtain ⟨j, h1, hf⟩ := bind_some hf
  refine ⟨w, j, rfl, rfl, rl, h1, fun H1 N1 s1 sz1 n1 => ?_⟩
  cases j with
  | true => rw [if_pos rfl] at hf ⊢; exact tP.next rl s1 sz1 n1 hf g
  | false => rw [if_neg Bool.false_ne_true] at hf ⊢; exact tP.next rl s1 sz1 n1 hf g
/-- and, or of truths as values -/
def eAndV (f g : ES D) : ES D := fun ε S => (f ε S).bind fun d ε S => match d with
  | .bl true => g ε S
  | .bl false => .ok (.bl false) ε S
  | _ => .stuck
def eOrV (f g : ES D) : ES D := fun ε S => (f ε S).bind fun d ε S => match d with
  | .bl true => .ok (.bl true) ε S
  | .bl false => g ε S
  | _ => .stuck
theorem de_one {op} (h : DE X C a f) : DE X C (.BoolOp op [a] pos) f := pe_one h
theorem de_and (ha : DE X C a f) (hb : DE X C (.BoolOp .And (b :: rest) pos) g) : DE X C (.BoolOp .And (a :: b :: rest) pos) (eAndV f g) := PE_imp (pe_and ha hb) fun σ H Q ⟨w, e1, e2, rl, q⟩ => by
  refine ⟨w, e1, e2, rl, POST.mono (POST.bind q) fun d w1 s1 m1 r1 ⟨_, _, _, q1⟩ v hv => ?_⟩
  split at q1
  · exact ⟨true, rep_bool.mp hv, by rw [if_pos rfl]; exact ⟨w1, s1.trans e1, rfl, r1, q1⟩⟩
  · refine ⟨false, rep_bool.mp hv, ?_⟩
    rw [if_neg Bool.false_ne_true]
    exact POST.now r1 q1 _ (by simp)
  · exact q1.elim
theorem de_or (ha : DE X C a f) (hb : DE X C (.BoolOp .Or (b :: rest) pos) g) : DE X C (.BoolOp .Or (a :: b :: rest) pos) (eOrV f g) := PE_imp (pe_or ha hb) fun σ H Q ⟨w, e1, e2, rl, q⟩ => by
  refine ⟨w, e1, e2, rl, POST.mono (POST.bind q) fun d w1 s1 m1 r1 ⟨_, _, _, q1⟩ v hv => ?_⟩
  split at q1
  · refine ⟨true, rep_bool.mp hv, ?_⟩
    rw [if_pos rfl]
    exact POST.now r1 q1 _ (by simp)
  · exact ⟨false, rep_bool.mp hv, by rw [if_neg Bool.false_ne_true]; exact ⟨w1, s1.trans e1, rfl, r1, q1⟩⟩
  · exact q1.elim
def eNotV (f : ES D) : ES D := fun ε S => (f ε S).bind fun d ε S => match d with
  | .bl b => .ok (.bl (!b)) ε S
  | _ => .stuck
theorem de_not (ha : DE X C a f) : DE X C (.UnaryOp .Not a pos) (eNotV f) := PE_imp (pe_not ha) fun σ H Q ⟨w, e1, e2, rl, q⟩ => by
  refine ⟨w, e1, e2, rl, POST.mono (POST.bind q) fun d w1 s1 m1 r1 ⟨_, _, _, q1⟩ v hv => ?_⟩
  split at q1
  · exact ⟨_, rep_bool.mp hv, POST.now r1 q1 _ (by simp)⟩
  · exact q1.elim
/-- not of anything -/
def eNotT (f : ES D) : ES D := fun ε S => (f ε S).bind fun d ε S => R.opt ((dTru d).map fun k => .bl (!k)) ε S
theorem de_notT (ha : DE X C a f) : DE X C (.UnaryOp .Not a pos) (eNotT f) := PE_imp (pe_notT ha) fun σ H Q ⟨w, e1, e2, rl, q⟩ => by
  refine ⟨w, e1, e2, rl, POST.mono (POST.bind q) fun d w1 s1 m1 r1 ⟨_, _, _, q1⟩ v hv => ?_⟩
  obtain ⟨d', hd, q2⟩ := POST.opt q1
  cases hk : dTru d with
  | none => rw [hk] at hd; cases hd
  | some k =>
    rw [hk] at hd
    cases hd
    exact ⟨k, tru_of hv hk, POST.now r1 q2 _ (by simp)⟩
/-- pure ones -/
def pAndV (f g : PF) : PF := fun ε S => (f ε S).bind fun d => match d with
  | .bl true => g ε S
  | .bl false => some (.bl false)
  | _ => none
def pOrV (f g : PF) : PF := fun ε S => (f ε S).bind fun d => match d with
  | .bl true => some (.bl true)
  | .bl false => g ε S
  | _ => none
theorem dp_one {op} (h : DP X C a fa) : DP X C (.BoolOp op [a] pos) fa := pe_one h
theorem dp_and (ha : DP X C a fa) (hb : DP X C (.BoolOp .And (b :: rest) pos) fb) : DP X C (.BoolOp .And (a :: b :: rest) pos) (pAndV fa fb) := PE_imp (pe_and ha hb) fun σ H Q ⟨w, d, e1, e2, rl, hf, g⟩ => by
  subst e1; subst e2
  obtain ⟨dx, h1, hf⟩ := bind_some hf
  refine ⟨w, dx, rfl, rfl, rl, h1, fun v H1 N1 s1 sz1 n1 hv => ?_⟩
  split at hf
  · exact ⟨true, rep_bool.mp hv, by rw [if_pos rfl]; exact tP.next rl s1 sz1 n1 hf g⟩
  · cases hf
    refine ⟨false, rep_bool.mp hv, ?_⟩
    rw [if_neg Bool.false_ne_true]
    exact g _ H1 N1 s1 sz1 n1 (by simp)
  · cases hf
theorem dp_or (ha : DP X C a fa) (hb : DP X C (.BoolOp .Or (b :: rest) pos) fb) : DP X C (.BoolOp .Or (a :: b :: rest) pos) (pOrV fa fb) := PE_imp (pe_or ha hb) fun σ H Q ⟨w, d, e1, e2, rl, hf, g⟩ => by
  subst e1; subst e2
  obtain ⟨dx, h1, hf⟩ := bind_some hf
  refine ⟨w, dx, rfl, rfl, rl, h1, fun v H1 N1 s1 sz1 n1 hv => ?_⟩
  split at hf
  · cases hf
    refine ⟨true, rep_bool.mp hv, ?_⟩
    rw [if_pos rfl]
    exact g _ H1 N1 s1 sz1 n1 (by simp)
  · exact ⟨false, rep_bool.mp hv, by rw [if_neg Bool.false_ne_true]; exact tP.next rl s1 sz1 n1 hf g⟩
  · cases hf
/-- one value -/
def UnG (K : PySem.W.Frag) (r : V → Hp → VK → Prop) (op : D → Option D) : Prop := ∀ (Z : Addr → Prop) (ρ : List Addr) (H : Hp) (x : V) (dx d : D) (Q : VK), SzH H → Rep K Z ρ H dx x → op dx = some d → Grown K Z ρ H d Q → r x H Q
def pUn (op : D → Option D) (f : PF) : PF := fun ε S => (f ε S).bind op
def dNeg : D → Option D
  | .int i => some (.int (-i))
  | _ => none
theorem ok_neg {K : PySem.W.Frag} : UnG K (rU fun i => .int (-i)) dNeg := fun Z ρ H x dx d Q sz hx hd gr => by
  unfold dNeg at hd
  split at hd
  · cases hd; rw [rep_int] at hx; exact ⟨_, hx, gr.now sz (by simp)⟩
  · cases hd
theorem dp_neg (ha : DP X C a fa) : DP X C (.UnaryOp .USub a pos) (pUn dNeg fa) := PE_imp (pe_un un_neg ha) fun σ H Q ⟨w, d, e1, e2, rl, hf, g⟩ => by
  subst e1; subst e2
  obtain ⟨dx, h1, hf⟩ := bind_some hf
  refine tP.then rl h1 fun x H1 N1 s1 r1 n1 hx => ?_
  refine ok_neg _ w.ρ H1 x dx d Q r1.sz hx hf fun v H2 N2 s2 sz2 n2 hv => ?_
  exact g v H2 (fun a => N1 a ∨ N2 a) (s1.trans s2) sz2 (grow2 s1 n1 s2 n2) (Rep.same (Same.refl _) (fun a z => by rcases z with ((z | z) | z) | z; exact .inl (.inl z); exact .inr (.inl z); exact .inl (.inr z); exact .inr (.inr z)) hv)
end
end DL
namespace DL
open L2 PyProof.Rows PySem PySem.Spec
variable [TabT]
/-! ### built-in functions -/
def CallG (K : PySem.W.Frag) (r : List V → Hp → VK → Prop) (op : List D → Option D) : Prop := ∀ (Z : Addr → Prop) (ρ : List Addr) (H : Hp) (xs : List V) (ds : List D) (d : D) (Q : VK), SzH H → Reps K Z ρ H ds xs → op ds = some d → Grown K Z ρ H d Q → r xs H Q
def pNil : EV → Sto → Option (List D) := fun _ _ => some []
def pCons (f : PF) (g : EV → Sto → Option (List D)) : EV → Sto → Option (List D) := fun ε S => (f ε S).bind fun d => (g ε S).bind fun ds => some (d :: ds)
def pCall (op : List D → Option D) (f : EV → Sto → Option (List D)) : PF := fun ε S => (f ε S).bind op
def eCallP (op : List D → Option D) (f : ES (List D)) : ES D := fun ε S => (f ε S).bind fun ds ε S => R.opt (op ds) ε S
section
variable {X : Cx} {C : Cfg} {e : Expr} {es : List Expr} {f : PF} {g : EV → Sto → Option (List D)} {fa : ES (List D)} {x : Str} {p pos : Pos} {id T : String} {r : List V → Hp → VK → Prop} {op : List D → Option D}
theorem dpa_nil : DPA X C [] pNil := PA_imp pa_nil fun σ H Q ⟨w, ds, e1, e2, rl, hf, q⟩ => by
  subst e2
  cases hf
  exact q [] w.H (fun _ => False) (Same.refl _) rl.sz (fun _ z => z.elim) (by simp only [DL.Reps])
theorem dpa_cons (h1 : DP X C e f) (h2 : DPA X C es g) (hs : starEach (e :: es) X.env = (false, eval e X.env) :: starEach es X.env := by rfl) : DPA X C (e :: es) (pCons f g) := PA_imp (pa_cons h1 h2 hs) fun σ H Q ⟨w, ds, e1, e2, rl, hf, q⟩ => by
  subst e1; subst e2
  obtain ⟨d, k1, hf⟩ := bind_some hf
  obtain ⟨ds', k2, hf⟩ := bind_some hf
  cases hf
  refine tP.then rl k1 fun v H1 N1 s1 r1 n1 hv => ?_
  refine ⟨w.gr H1 N1, ds', rfl, rfl, r1, k2, fun vs H2 N2 s2 sz2 n2 hvs => ?_⟩
  refine q (v :: vs) H2 (fun a => N1 a ∨ N2 a) (s1.trans s2) sz2 (grow2 s1 n1 s2 n2) ?_
  simp only [DL.Reps]
  exact ⟨v, vs, rfl, Rep.same s2 (fun a z => by rcases z with (z | z) | z; exact .inl (.inl z); exact .inr (.inl z); exact .inl (.inr z)) hv,
    Reps.same (Same.refl _) (fun a z => by rcases z with ((z | z) | z) | z; exact .inl (.inl z); exact .inr (.inl z); exact .inl (.inr z); exact .inr (.inr z)) hvs⟩
theorem call_pure (ok : CallG X.K r op) : ∀ σ H Q, tP X.K C (pCall op g) σ H Q → tCB r (tPA X.K C g) σ H Q := fun σ H Q ⟨w, d, e1, e2, rl, hf, gr⟩ => by
  subst e1; subst e2
  obtain ⟨ds, k1, hf⟩ := bind_some hf
  refine ⟨w, ds, rfl, rfl, rl, k1, fun vs H1 N1 s1 sz1 n1 hvs => ?_⟩
  exact ok _ w.ρ H1 vs ds d Q sz1 hvs hf (gr.after s1 n1)
theorem call_eff (ok : CallG X.K r op) : ∀ σ H Q, tE X.K C (eCallP op fa) σ H Q → tCB r (tA X.K C fa) σ H Q := fun σ H Q ⟨w, e1, e2, rl, q⟩ => by
  refine ⟨w, e1, e2, rl, POST.mono (POST.bind q) fun ds w1 s1 m1 r1 ⟨_, _, _, q1⟩ vs hvs => ?_⟩
  obtain ⟨d, hd, q2⟩ := POST.opt q1
  refine ok w1.Z w1.ρ w1.H vs ds d Q r1.sz hvs hd fun v H' N s sz n hv => ?_
  obtain ⟨m, r⟩ := r1.gr s sz n
  have q3 := POST.at q2 m r rfl rfl rfl
  exact q3 v hv
theorem dp_callB (ok : CallG X.K r op) (hc : CallR X (.builtin id) r) (hv : bootBuiltins x = some (.builtin id)) (hm : X.mg x = none) (ha : DPA X C (e :: es) g) (hg : Gl X x := by rfl) (hn : x ≠ "__name__" := by decide) (hdb : (x == ("__debug__" : Str)) = false := by decide)
    (he : starEach (e :: es) X.env = (false, eval e X.env) :: starEach es X.env := by rfl) (hpl : (backTo pos (starEach es X.env)).any (·.1) = false := by rfl) : DP X C (.Call (.Name x p) (e :: es) [] pos) (pCall op g) := PE_imp (pe_callB hc hg hm hv ha hn hdb he hpl) (call_pure ok)
theorem de_callB (ok : CallG X.K r op) (hc : CallR X (.builtin id) r) (hv : bootBuiltins x = some (.builtin id)) (hm : X.mg x = none) (ha : DA X C (e :: es) fa) (hg : Gl X x := by rfl) (hn : x ≠ "__name__" := by decide) (hdb : (x == ("__debug__" : Str)) = false := by decide)
    (he : starEach (e :: es) X.env = (false, eval e X.env) :: starEach es X.env := by rfl) (hpl : (backTo pos (starEach es X.env)).any (·.1) = false := by rfl) : DE X C (.Call (.Name x p) (e :: es) [] pos) (eCallP op fa) := PE_imp (pe_callB hc hg hm hv ha hn hdb he hpl) (call_eff ok)
theorem dp_callTy (ok : CallG X.K r op) (hc : CallR X (.type T) r) (hv : bootBuiltins x = some (.type T)) (hm : X.mg x = none) (ha : DPA X C (e :: es) g) (hg : Gl X x := by rfl) (hn : x ≠ "__name__" := by decide) (hdb : (x == ("__debug__" : Str)) = false := by decide)
    (he : starEach (e :: es) X.env = (false, eval e X.env) :: starEach es X.env := by rfl) (hpl : (backTo pos (starEach es X.env)).any (·.1) = false := by rfl) : DP X C (.Call (.Name x p) (e :: es) [] pos) (pCall op g) := PE_imp (pe_callTy hc hg hm hv ha hn hdb he hpl) (call_pure ok)
theorem de_callTy (ok : CallG X.K r op) (hc : CallR X (.type T) r) (hv : bootBuiltins x = some (.type T)) (hm : X.mg x = none) (ha : DA X C (e :: es) fa) (hg : Gl X x := by rfl) (hn : x ≠ "__name__" := by decide) (hdb : (x == ("__debug__" : Str)) = false := by decide)
    (he : starEach (e :: es) X.env = (false, eval e X.env) :: starEach es X.env := by rfl) (hpl : (backTo pos (starEach es X.env)).any (·.1) = false := by rfl) : DE X C (.Call (.Name x p) (e :: es) [] pos) (eCallP op fa) := PE_imp (pe_callTy hc hg hm hv ha hn hdb he hpl) (call_eff ok)
end
section
variable {K : PySem.W.Frag} {X : Cx}
theorem reps1 {Z : Addr → Prop} {ρ : List Addr} {H : Hp} {d : D} {vs : List V} (h : Reps K Z ρ H [d] vs) : ∃ v, vs = [v] ∧ Rep K Z ρ H d v := by
  simp only [DL.Reps] at h
  obtain ⟨v, ws, e, h1, h2⟩ := h
  subst h2
  exact ⟨v, e, h1⟩
theorem reps2 {Z : Addr → Prop} {ρ : List Addr} {H : Hp} {d d' : D} {vs : List V} (h : Reps K Z ρ H [d, d'] vs) : ∃ v v', vs = [v, v'] ∧ Rep K Z ρ H d v ∧ Rep K Z ρ H d' v' := by
  simp only [DL.Reps] at h
  obtain ⟨v, ws, e, h1, v', ws', e', h2, h3⟩ := h
  subst h3; subst e'
  exact ⟨v, v', e, h1, h2⟩
/-! len -/
def rLenD (K : PySem.W.Frag) : List V → Hp → VK → Prop := fun xs H Q => (∃ p ys, xs = [.ref p] ∧ (SqL K H p ys ∨ SqT K H p ys) ∧ Q (.int ys.length) H) ∨ ((∃ z, xs = [.str z] ∧ z.length ≤ sizeLine ∧ Q (.int z.length) H) ∨ ∃ p kvs, xs = [.ref p] ∧ Rd H p (.dK kvs) ∧ Q (.int kvs.length) H)
theorem call_len_dK : CallR X (.builtin "len") (fun xs H Q => ∃ p kvs, xs = [.ref p] ∧ Rd H p (.dK kvs) ∧ Q (.int kvs.length) H) := by
  intro pins s σ H xs us Q I r h
  obtain ⟨p, kvs, rfl, hd, q⟩ := h
  obtain rfl := Vals.ref1 r
  exact d_len I hd fun t s' I' => ⟨.int kvs.length, H, I', ⟨t, rfl⟩, q⟩
theorem call_lenD : CallR X (.builtin "len") (rLenD X.K) := call_len_seq.or (call_len_str.or call_len_dK)
def dLen : List D → Option D
  | [.lst ds] => some (.int ds.length)
  | [.tup ds] => some (.int ds.length)
  | [.str x] => if x.length ≤ sizeLine then some (.int x.length) else none
  | [.dic false ks _] => some (.int ks.length)
  | _ => none
theorem ok_len : CallG K (rLenD K) dLen := fun Z ρ H xs ds d Q sz hx hd gr => by
  unfold dLen at hd
  split at hd
  · cases hd
    obtain ⟨v, rfl, hv⟩ := reps1 hx
    obtain ⟨a, vs, e, h1, h2⟩ := rep_lst.mp hv
    subst e
    rw [← h2.length] at gr
    exact .inl ⟨a, vs, rfl, .inl h1.sq, gr.now sz (by simp)⟩
  · cases hd
    obtain ⟨v, rfl, hv⟩ := reps1 hx
    obtain ⟨a, vs, e, h1, h2⟩ := rep_tup.mp hv
    subst e
    rw [← h2.length] at gr
    exact .inl ⟨a, vs, rfl, .inr h1.sq, gr.now sz (by simp)⟩
  · obtain ⟨hl, e⟩ := ite_some hd
    subst e
    obtain ⟨v, rfl, hv⟩ := reps1 hx
    rw [rep_str] at hv
    exact .inr (.inl ⟨_, by rw [hv], hl, gr.now sz (by simp)⟩)
  · cases hd
    obtain ⟨v, rfl, hv⟩ := reps1 hx
    simp only [DL.Rep] at hv
    obtain ⟨a, vs, e, _, h1, h2⟩ := hv
    subst e
    rcases h1 with ⟨_, kvs, h, ek, ew⟩ | ⟨z, _⟩
    · subst ek
      rw [List.length_map] at gr
      exact .inr (.inr ⟨a, kvs, rfl, .inl h, gr.now sz (by simp)⟩)
    · cases z
  · cases hd
/-! abs, int, max, sum -/
def dAbs : List D → Option D
  | [.int i] => some (.int (if i < 0 then -i else i))
  | _ => none
theorem ok_abs : CallG K (fun xs H Q => ∃ i, xs = [.int i] ∧ Q (.int (if i < 0 then -i else i)) H) dAbs := fun Z ρ H xs ds d Q sz hx hd gr => by
  unfold dAbs at hd
  split at hd
  · cases hd
    obtain ⟨v, rfl, hv⟩ := reps1 hx
    rw [rep_int] at hv
    exact ⟨_, by rw [hv], gr.now sz (by simp)⟩
  · cases hd
def dInt1 : List D → Option D
  | [.int i] => some (.int i)
  | [.bl b] => some (.int (if b then 1 else 0))
  | _ => none
theorem ok_int1 : CallG K (fun xs H Q => (∃ i, xs = [.int i] ∧ Q (.int i) H) ∨ ∃ k, xs = [.bl k] ∧ Q (.int (if k then 1 else 0)) H) dInt1 := fun Z ρ H xs ds d Q sz hx hd gr => by
  unfold dInt1 at hd
  split at hd
  · cases hd
    obtain ⟨v, rfl, hv⟩ := reps1 hx
    rw [rep_int] at hv
    exact .inl ⟨_, by rw [hv], gr.now sz (by simp)⟩
  · cases hd
    obtain ⟨v, rfl, hv⟩ := reps1 hx
    rw [rep_bool] at hv
    exact .inr ⟨_, by rw [hv], gr.now sz (by simp)⟩
  · cases hd
/-- all ints -/
def intsOf : List D → Option (List Int)
  | [] => some []
  | .int i :: ds => (intsOf ds).map (i :: ·)
  | _ => none
theorem intsOf_some : ∀ {ds : List D} {ns : List Int}, intsOf ds = some ns → ds = ns.map D.int
  | [], ns, h => by cases h; rfl
  | .int i :: ds, ns, h => by
    simp only [intsOf] at h
    cases h2 : intsOf ds with
    | none => rw [h2] at h; cases h
    | some ms =>
      rw [h2] at h
      cases h
      rw [intsOf_some h2]
      rfl
theorem intsOf_map (ns : List Int) : intsOf (ns.map D.int) = some ns := by
  induction ns with
  | nil => rfl
  | cons n ns ih => simp [intsOf, ih]
theorem reps_ints {Z : Addr → Prop} {ρ : List Addr} {H : Hp} : ∀ {ns : List Int} {vs : List V}, Reps K Z ρ H (ns.map D.int) vs → vs = ns.map V.int
  | [], vs, h => by simpa only [List.map_nil, DL.Reps] using h
  | n :: ns, vs, h => by
    simp only [List.map_cons, DL.Reps] at h
    obtain ⟨v, ws, e, h1, h2⟩ := h
    rw [e, rep_int.mp h1, reps_ints h2]
    rfl
def maxI : List Int → Int
  | [] => 0
  | n :: ns => ns.foldl (fun a b => if b > a then b else a) n
theorem maxI_fold : ∀ (ns : List Int) (n : Int), (ns.foldl (fun a b => if b > a then b else a) n = n ∨ ns.foldl (fun a b => if b > a then b else a) n ∈ ns) ∧ n ≤ ns.foldl (fun a b => if b > a then b else a) n ∧ ∀ y ∈ ns, y ≤ ns.foldl (fun a b => if b > a then b else a) n
  | [], n => ⟨.inl rfl, Int.le_refl _, fun y h => by cases h⟩
  | m :: ns, n => by
    obtain ⟨h1, h2, h3⟩ := maxI_fold ns (if m > n then m else n)
    simp only [List.foldl_cons]
    refine ⟨?_, ?_, fun y hy => ?_⟩
    · rcases h1 with h1 | h1
      · rw [h1]
        split
        · exact .inr (by simp)
        · exact .inl rfl
      · exact .inr (List.mem_cons_of_mem _ h1)
    · refine Int.le_trans ?_ h2
      split <;> omega
    · rcases List.mem_cons.mp hy with rfl | hy
      · refine Int.le_trans ?_ h2
        split <;> omega
      · exact h3 y hy
theorem maxI_spec {ns : List Int} (h : 0 < ns.length) : maxI ns ∈ ns ∧ ∀ y ∈ ns, y ≤ maxI ns := by
  cases ns with
  | nil => cases h
  | cons n ns =>
    obtain ⟨h1, h2, h3⟩ := maxI_fold ns n
    refine ⟨?_, fun y hy => ?_⟩
    · show ns.foldl _ n ∈ n :: ns
      rcases h1 with h1 | h1
      · rw [h1]; exact List.mem_cons_self
      · exact List.mem_cons_of_mem _ h1
    · rcases List.mem_cons.mp hy with rfl | hy
      · exact h2
      · exact h3 y hy
def dMax : List D → Option D
  | [.lst ds] => (intsOf ds).bind fun ns => if 0 < ns.length then some (.int (maxI ns)) else none
  | _ => none
theorem ok_max : CallG K (rMax K) dMax := fun Z ρ H xs ds d Q sz hx hd gr => by
  unfold dMax at hd
  split at hd
  · obtain ⟨ns, h1, hd⟩ := bind_some hd
    obtain ⟨hl, e⟩ := ite_some hd
    subst e
    obtain ⟨v, rfl, hv⟩ := reps1 hx
    obtain ⟨a, vs, e, k1, k2⟩ := rep_lst.mp hv
    subst e
    rw [intsOf_some h1] at k2
    rw [reps_ints k2] at k1
    refine ⟨a, ns, rfl, k1.sq, hl, fun m hm hle => ?_⟩
    obtain ⟨j1, j2⟩ := maxI_spec hl
    have e : m = maxI ns := Int.le_antisymm (j2 m hm) (hle _ j1)
    rw [e]
    exact gr.now sz (by simp)
  · cases hd
def dSum : List D → Option D
  | [.lst ds] => (intsOf ds).map fun ns => .int ns.sum
  | _ => none
theorem ok_sum : CallG K (rSum K) dSum := fun Z ρ H xs ds d Q sz hx hd gr => by
  unfold dSum at hd
  split at hd
  · cases h1 : intsOf _ with
    | none => rw [h1] at hd; cases hd
    | some ns =>
      rw [h1] at hd
      cases hd
      obtain ⟨v, rfl, hv⟩ := reps1 hx
      obtain ⟨a, vs, e, k1, k2⟩ := rep_lst.mp hv
      subst e
      rw [intsOf_some h1] at k2
      rw [reps_ints k2] at k1
      exact ⟨a, ns, rfl, k1.sq, gr.now sz (by simp)⟩
  · cases hd
/-! all, any -/
def boolsOf : List D → Option (List Bool)
  | [] => some []
  | .bl i :: ds => (boolsOf ds).map (i :: ·)
  | _ => none
theorem boolsOf_some : ∀ {ds : List D} {ns : List Bool}, boolsOf ds = some ns → ds = ns.map D.bl
  | [], ns, h => by cases h; rfl
  | .bl i :: ds, ns, h => by
    simp only [boolsOf] at h
    cases h2 : boolsOf ds with
    | none => rw [h2] at h; cases h
    | some ms =>
      rw [h2] at h
      cases h
      rw [boolsOf_some h2]
      rfl
theorem boolsOf_map (ns : List Bool) : boolsOf (ns.map D.bl) = some ns := by
  induction ns with
  | nil => rfl
  | cons n ns ih => simp [boolsOf, ih]
theorem reps_bools {Z : Addr → Prop} {ρ : List Addr} {H : Hp} : ∀ {ns : List Bool} {vs : List V}, Reps K Z ρ H (ns.map D.bl) vs → vs = ns.map V.bl
  | [], vs, h => by simpa only [List.map_nil, DL.Reps] using h
  | n :: ns, vs, h => by
    simp only [List.map_cons, DL.Reps] at h
    obtain ⟨v, ws, e, h1, h2⟩ := h
    rw [e, rep_bool.mp h1, reps_bools h2]
    rfl
def dAll : List D → Option D
  | [.lst ds] => (boolsOf ds).map fun bs => .bl (bs.all id)
  | _ => none
def dAny : List D → Option D
  | [.lst ds] => (boolsOf ds).map fun bs => .bl (bs.any id)
  | _ => none
theorem ok_all : CallG K (rAll K) dAll := fun Z ρ H xs ds d Q sz hx hd gr => by
  unfold dAll at hd
  split at hd
  · cases h1 : boolsOf _ with
    | none => rw [h1] at hd; cases hd
    | some ns =>
      rw [h1] at hd
      cases hd
      obtain ⟨v, rfl, hv⟩ := reps1 hx
      obtain ⟨a, vs, e, k1, k2⟩ := rep_lst.mp hv
      subst e
      rw [boolsOf_some h1] at k2
      rw [reps_bools k2] at k1
      exact ⟨a, ns, rfl, k1.sq, gr.now sz (by simp)⟩
  · cases hd
theorem ok_any : CallG K (rAny K) dAny := fun Z ρ H xs ds d Q sz hx hd gr => by
  unfold dAny at hd
  split at hd
  · cases h1 : boolsOf _ with
    | none => rw [h1] at hd; cases hd
    | some ns =>
      rw [h1] at hd
      cases hd
      obtain ⟨v, rfl, hv⟩ := reps1 hx
      obtain ⟨a, vs, e, k1, k2⟩ := rep_lst.mp hv
      subst e
      rw [boolsOf_some h1] at k2
      rw [reps_bools k2] at k1
      exact ⟨a, ns, rfl, k1.sq, gr.now sz (by simp)⟩
  · cases hd
/-! tuple, list -/
def dTupOf : List D → Option D
  | [.lst ds] => some (.tup ds)
  | [.tup ds] => some (.tup ds)
  | _ => none
theorem ok_tupOf : CallG K (fun xs H Q => ∃ p ys, xs = [.ref p] ∧ ((SqL K H p ys ∧ ∀ l, H l = none → Q (.ref l) (upd H l (.tup ys))) ∨ (SqT K H p ys ∧ Q (.ref p) H))) dTupOf := fun Z ρ H xs ds d Q sz hx hd gr => by
  unfold dTupOf at hd
  split at hd
  · cases hd
    obtain ⟨v, rfl, hv⟩ := reps1 hx
    obtain ⟨a, vs, e, h1, h2⟩ := rep_lst.mp hv
    subst e
    exact ⟨a, vs, rfl, .inl ⟨h1.sq, fun l hl => gr.tup sz h2 (fzL_len sz h1) hl⟩⟩
  · cases hd
    obtain ⟨v, rfl, hv⟩ := reps1 hx
    obtain ⟨a, vs, e, h1, h2⟩ := rep_tup.mp hv
    subst e
    exact ⟨a, vs, rfl, .inr ⟨h1.sq, gr.now sz hv⟩⟩
  · cases hd
def dLstOf : List D → Option D
  | [.lst ds] => some (.lst ds)
  | [.tup ds] => some (.lst ds)
  | _ => none
theorem ok_lstOf : CallG K (fun xs H Q => ∃ p ys, xs = [.ref p] ∧ (SqL K H p ys ∨ SqT K H p ys) ∧ ∀ l, H l = none → Q (.ref l) (upd H l (.lst ys))) dLstOf := fun Z ρ H xs ds d Q sz hx hd gr => by
  unfold dLstOf at hd
  split at hd
  · cases hd
    obtain ⟨v, rfl, hv⟩ := reps1 hx
    obtain ⟨a, vs, e, h1, h2⟩ := rep_lst.mp hv
    subst e
    exact ⟨a, vs, rfl, .inl h1.sq, fun l hl => gr.lst sz h2 (fzL_len sz h1) hl⟩
  · cases hd
    obtain ⟨v, rfl, hv⟩ := reps1 hx
    obtain ⟨a, vs, e, h1, h2⟩ := rep_tup.mp hv
    subst e
    exact ⟨a, vs, rfl, .inr h1.sq, fun l hl => gr.lst sz h2 (tpT_len sz h1) hl⟩
  · cases hd
/-! isinstance -/
def tyD : D → Option String
  | .non => some "NoneType"
  | .bl _ => some "bool"
  | .int _ => some "int"
  | .str _ => some "str"
  | .tup _ => some "tuple"
  | .lst _ => some "list"
  | .dic _ _ _ => some "dict"
  | .ref _ => none
theorem tyD_of {Z : Addr → Prop} {ρ : List Addr} {H : Hp} {d : D} {v : V} {T : String} (h : Rep K Z ρ H d v) (e : tyD d = some T) : TyX K H v (.type T) := by
  cases d <;> simp only [tyD, Option.some.injEq] at e
  · rw [rep_non] at h; subst h; subst e; exact .base .non
  · rw [rep_bool] at h; subst h; subst e; exact .base (.bl _)
  · rw [rep_int] at h; subst h; subst e; exact .base (.int _)
  · rw [rep_str] at h; subst h; subst e; exact .base (.str _)
  · obtain ⟨a, vs, e1, h1, h2⟩ := rep_tup.mp h; subst e1; subst e; exact .base (.tup h1)
  · obtain ⟨a, vs, e1, h1, h2⟩ := rep_lst.mp h
    subst e1; subst e
    rcases h1 with ⟨_, h1⟩ | ⟨_, o, h1⟩ | ⟨o, _, _, h1, h2, _⟩
    · exact .base (.lst h1)
    · exact .base (.frz h1)
    · exact .kList h1 h2
  · simp only [DL.Rep] at h
    obtain ⟨a, vs, e1, _, h1, _⟩ := h
    subst e1; subst e
    rcases h1 with ⟨_, kvs, h, _⟩ | ⟨_, kvs, h, _⟩
    · exact .base (.dK h)
    · exact .base (.dT h)
  · cases e
def subT (a b : String) : Bool := (a == b) || (a == "bool" && b == "int")
def isT (T : String) : D → Option D := fun d => (tyD d).map fun t => .bl (subT t T)
theorem kit_sub : ∀ a ∈ ["NoneType", "bool", "int", "str", "tuple", "list", "dict"], ∀ b ∈ ["bool", "int", "str", "tuple", "list", "dict"], kitB a b = some (subT a b) := by decide +kernel
theorem tyD_mem {d : D} {T : String} (e : tyD d = some T) : T ∈ ["NoneType", "bool", "int", "str", "tuple", "list", "dict"] := by
  cases d <;> simp only [tyD, Option.some.injEq] at e <;> first | (subst e; decide) | cases e
def pIs (T : String) (f : PF) : PF := fun ε S => (f ε S).bind (isT T)
def eIs (T : String) (f : ES D) : ES D := fun ε S => (f ε S).bind fun d ε S => R.opt (isT T d) ε S
end
section
variable {X : Cx} {C : Cfg} {e : Expr} {f : PF} {T : String} {x : Str} {p p2 pos : Pos}
/-- isinstance(e, T), T a built-in class -/
theorem dp_isi (hT : T ∈ ["bool", "int", "str", "tuple", "list", "dict"]) (hv2 : bootBuiltins x = some (.type T)) (hm : X.mg "isinstance" = none) (hm2 : X.mg x = none) (he : DP X C e f) (hg : Gl X "isinstance" := by rfl) (hg2 : Gl X x := by rfl)
    (hn : x ≠ "__name__" := by decide) (hd : (x == ("__debug__" : Str)) = false := by decide) (hs : starEach [e, .Name x p2] X.env = (false, eval e X.env) :: starEach [.Name x p2] X.env := by rfl) (hs2 : starEach [.Name x p2] X.env = (false, eval (.Name x p2) X.env) :: starEach [] X.env := by rfl)
    (hpl : (backTo pos (starEach [.Name x p2] X.env)).any (·.1) = false := by rfl) : DP X C (.Call (.Name "isinstance" p) [e, .Name x p2] [] pos) (pIs T f) := by
  have ha : PA X [e, .Name x p2] (tCons (tP X.K C f) (tCons (tC (.ty T)) tNil)) := pa_cons he (pa_cons (pe_bltn hg2 hm2 hv2 rfl hn hd) pa_nil hs2) hs
  refine PE_imp (pe_callB call_isi hg hm (by decide +kernel) ha (he := hs) (hpl := hpl)) fun σ H Q ⟨w, d, e1, e2, rl, hf, g⟩ => ?_
  subst e1; subst e2
  obtain ⟨dx, h1, hf⟩ := bind_some hf
  refine tP.then rl h1 fun v H1 N1 s1 r1 n1 hx => ?_
  unfold isT at hf
  cases ht : tyD dx with
  | none => rw [ht] at hf; cases hf
  | some t =>
    rw [ht] at hf
    cases hf
    refine ⟨v, .ty T, .type t, .type T, subT t T, rfl, .ty T, tyD_of hx ht, kit_ty (kit_sub t (tyD_mem ht) T hT), ?_⟩
    exact g _ H1 N1 s1 r1.sz n1 (by simp)
end
end DL
namespace DL
open L2 PyProof.Rows PySem PySem.Spec
variable [TabT]
section
variable {X : Cx} {C : Cfg} {tg e e2 : Expr} {f : ES D} {pos p : Pos}
/-! ### lists and tuples walked -/
theorem iter_lst {K : PySem.W.Frag} {w : Ws} {ds : List D} {a : Addr} {vs : List V} (r : RelC K C w) (h1 : FzL K w.Z w.H a vs) (h2 : w.Reps K ds vs) : IterOk K C w (Itl K a) ds := by
  have hl := Reps.length h2
  refine ⟨by rw [← hl]; exact r.fzLen h1, fun H => SqL K H a vs, YAt vs, hl ▸ walk_list, fun w2 m r2 => ⟨((m.le r.r).fzL h1).sq, fun i d x H3 hd hy => ?_⟩⟩
  obtain ⟨e, hx⟩ := hy
  subst e
  obtain ⟨v, k1, k2⟩ := Reps.get h2 hd
  rw [k1] at hx
  cases hx
  exact ⟨w2, rfl, rfl, rfl, rfl, Mono.refl w2, r2, Rep.mono (m.le r.r) d _ k2⟩
theorem iter_tup {K : PySem.W.Frag} {w : Ws} {ds : List D} {a : Addr} {vs : List V} (r : RelC K C w) (h1 : TpT K w.H a vs) (h2 : w.Reps K ds vs) : IterOk K C w (Itt K a) ds := by
  have hl := Reps.length h2
  refine ⟨by rw [← hl]; exact r.tpLen h1, fun H => SqT K H a vs, YAt vs, hl ▸ walk_tup, fun w2 m r2 => ⟨((m.le r.r).sqT h1).sq, fun i d x H3 hd hy => ?_⟩⟩
  obtain ⟨e, hx⟩ := hy
  subst e
  obtain ⟨v, k1, k2⟩ := Reps.get h2 hd
  rw [k1] at hx
  cases hx
  exact ⟨w2, rfl, rfl, rfl, rfl, Mono.refl w2, r2, Rep.mono (m.le r.r) d _ k2⟩
def iLst (f : ES D) : ES (List D) := fun ε S => (f ε S).bind fun d ε S => match d with
  | .lst ds => .ok ds ε S
  | _ => .stuck
def iTp (f : ES D) : ES (List D) := fun ε S => (f ε S).bind fun d ε S => match d with
  | .tup ds => .ok ds ε S
  | _ => .stuck
theorem di_lst (h : DE X C e f) : DI X C tg e (iLst f) := PI_imp (pi_list h) fun σ H P0 ⟨w, e1, e2, rl, q⟩ => by
  refine ⟨w, e1, e2, rl, POST.mono (POST.bind q) fun d w1 s1 m1 r1 ⟨_, _, _, q1⟩ v hv => ?_⟩
  split at q1
  · obtain ⟨a, vs, e, h1, h2⟩ := rep_lst.mp hv
    exact ⟨a, e, ⟨vs, h1.sq⟩, POST.now r1 q1 _ (iter_lst r1 h1 h2)⟩
  · exact q1.elim
theorem di_tup (h : DE X C e f) : DI X C tg e (iTp f) := PI_imp (pi_tup h) fun σ H P0 ⟨w, e1, e2, rl, q⟩ => by
  refine ⟨w, e1, e2, rl, POST.mono (POST.bind q) fun d w1 s1 m1 r1 ⟨_, _, _, q1⟩ v hv => ?_⟩
  split at q1
  · obtain ⟨a, vs, e, h1, h2⟩ := rep_tup.mp hv
    exact ⟨a, e, ⟨vs, h1.sq⟩, POST.now r1 q1 _ (iter_tup r1 h1 h2)⟩
  · exact q1.elim
/-! ### ranges -/
def rngD (lo : Int) (n : Nat) : List D := (List.range n).map fun i => .int (lo + (i : Nat))
theorem iter_rng {K : PySem.W.Frag} {w : Ws} {lo : Int} {n : Nat} (hn : n ≤ sizeLine) (r : RelC K C w) : IterOk K C w (Itr lo n) (rngD lo n) := by
  have hl : (rngD lo n).length = n := by unfold rngD; rw [List.length_map, List.length_range]
  refine ⟨by rw [hl]; exact hn, fun _ => True, YFn fun i => .int (lo + i), by rw [hl]; exact walk_range, fun w2 m r2 => ⟨trivial, fun i d x H3 hd hy => ?_⟩⟩
  obtain ⟨e, hx⟩ := hy
  subst e; subst hx
  unfold rngD at hd
  rw [List.getElem?_map] at hd
  cases hi : (List.range n)[i]? with
  | none => rw [hi] at hd; cases hd
  | some j =>
    rw [hi] at hd
    have ej : i = j := by
      have := List.getElem?_eq_some_iff.mp hi
      obtain ⟨h1, h2⟩ := this
      simpa using h2
    cases hd
    subst ej
    exact ⟨w2, rfl, rfl, rfl, rfl, Mono.refl w2, r2, by simp⟩
def rngOk (i j : Int) : Bool := decide (-4611686018427387904 ≤ i) && decide (i < 4611686018427387904) && decide (-4611686018427387904 ≤ j) && decide (j < 4611686018427387904) && decide ((j - i).toNat ≤ sizeLine)
def iRange (fa : ES (List D)) : ES (List D) := fun ε S => (fa ε S).bind fun ds ε S => match ds with
  | [.int j] => if rngOk 0 j then .ok (rngD 0 j.toNat) ε S else .stuck
  | [.int i, .int j] => if rngOk i j then .ok (rngD i (j - i).toNat) ε S else .stuck
  | _ => .stuck
theorem rngOk_iff {i j : Int} (h : rngOk i j = true) : -(2 ^ 62) ≤ i ∧ i < 2 ^ 62 ∧ -(2 ^ 62) ≤ j ∧ j < 2 ^ 62 ∧ (j - i).toNat ≤ sizeLine := by
  simp only [rngOk, Bool.and_eq_true, decide_eq_true_eq] at h
  obtain ⟨⟨⟨⟨h1, h2⟩, h3⟩, h4⟩, h5⟩ := h
  exact ⟨h1, h2, h3, h4, h5⟩
theorem di_range1 {a : Expr} {fa : ES (List D)} (ha : DA X C [a] fa) (hm : X.mg "range" = none) (hl : ∀ (ε : EV) (S : Sto) ds ε' S', fa ε S = .ok ds ε' S' → ds.length = 1) (hg : Gl X "range" := by rfl) (hs : starEach [a] X.env = [(false, eval a X.env)] := by rfl) :
    DI X C tg (.Call (.Name "range" p) [a] [] pos) (iRange fa) := PI_imp (pi_range1 hg hm ha hs) fun σ H P0 ⟨w, e1, e2, rl, q⟩ => by
  subst e1; subst e2
  refine ⟨w, rfl, rfl, rl, ?_⟩
  unfold iRange at q
  cases hr : fa w.ε w.S with
  | ok ds ε S =>
    rw [hr] at q
    have h1 := hl _ _ _ _ _ hr
    intro w1 k1 k2 k3 m1 r1 vs hv
    dsimp only [DL.R.bind] at q
    split at q
    · rename_i j
      by_cases hz : rngOk 0 j = true
      · rw [if_pos hz] at q
        obtain ⟨v, e, hv1⟩ := reps1 hv
        obtain ⟨_, _, b1, b2, b3⟩ := rngOk_iff hz
        rw [rep_int] at hv1
        refine ⟨j, by rw [e, hv1], b1, b2, ?_⟩
        have q2 := POST.at q m1 r1 k1 k2 k3
        exact q2 _ (iter_rng (by simpa using b3) r1)
      · rw [if_neg hz] at q; exact q.elim
    · simp at h1
    · exact q.elim
  | ex c ε S => rw [hr] at q; exact q
  | stuck => rw [hr] at q; exact q
theorem di_range2 {a b : Expr} {fa : ES (List D)} (ha : DA X C [a, b] fa) (hm : X.mg "range" = none) (hl : ∀ (ε : EV) (S : Sto) ds ε' S', fa ε S = .ok ds ε' S' → ds.length = 2) (hg : Gl X "range" := by rfl)
    (hs : starEach [a, b] X.env = [(false, eval a X.env), (false, eval b X.env)] := by rfl) (hs2 : starEach [b] X.env = [(false, eval b X.env)] := by rfl) :
    DI X C tg (.Call (.Name "range" p) [a, b] [] pos) (iRange fa) := PI_imp (pi_range2 hg hm ha hs hs2) fun σ H P0 ⟨w, e1, e2, rl, q⟩ => by
  subst e1; subst e2
  refine ⟨w, rfl, rfl, rl, ?_⟩
  unfold iRange at q
  cases hr : fa w.ε w.S with
  | ok ds ε S =>
    rw [hr] at q
    have h1 := hl _ _ _ _ _ hr
    intro w1 k1 k2 k3 m1 r1 vs hv
    dsimp only [DL.R.bind] at q
    split at q
    · simp at h1
    · rename_i i j
      by_cases hz : rngOk i j = true
      · rw [if_pos hz] at q
        obtain ⟨v, v', e, hv1, hv2⟩ := reps2 hv
        obtain ⟨b1, b2, b3, b4, b5⟩ := rngOk_iff hz
        rw [rep_int] at hv1 hv2
        refine ⟨i, j, by rw [e, hv1, hv2], ⟨b1, b2, b3, b4⟩, ?_⟩
        have q2 := POST.at q m1 r1 k1 k2 k3
        exact q2 _ (iter_rng b5 r1)
      · rw [if_neg hz] at q; exact q.elim
    · exact q.elim
  | ex c ε S => rw [hr] at q; exact q
  | stuck => rw [hr] at q; exact q
end
/-! ### pairs -/
/-- what is given is a new pair -/
theorem iter_pair {K : PySem.W.Frag} {C : Cfg} {w : Ws} {J : It} {G : Hp → Prop} {xs ys : Nat → Option V} {ps : List (D × D)} (hz : ps.length ≤ sizeLine) (hw : Walk J ps.length G (YPair xs ys))
    (hG : ∀ w2 : Ws, Mono w w2 → RelC K C w2 → G w2.H) (hx : ∀ (i : Nat) p x, ps[i]? = some p → xs i = some x → w.Rep K p.1 x) (hy : ∀ (i : Nat) p y, ps[i]? = some p → ys i = some y → w.Rep K p.2 y) (r : RelC K C w) :
    IterOk K C w J (ps.map fun p => .tup [p.1, p.2]) := by
  refine ⟨by rw [List.length_map]; exact hz, G, YPair xs ys, by rw [List.length_map]; exact hw, fun w2 m r2 => ⟨hG w2 m r2, fun i d v H3 hd hY => ?_⟩⟩
  obtain ⟨T, x, y, ev, hT, eH, ex, ey⟩ := hY
  rw [List.getElem?_map] at hd
  cases hp : ps[i]? with
  | none => rw [hp] at hd; cases hd
  | some p =>
    rw [hp] at hd
    cases hd
    subst ev; subst eH
    have le := m.le r.r
    refine ⟨w2.lay T (.tup [x, y]), rfl, rfl, rfl, rfl, Mono.lay hT, r2.lay hT (by show 2 ≤ _; decide), ?_⟩
    refine rep_tup.mpr ⟨T, [x, y], rfl, upd_same, ?_⟩
    have l2 := (Mono.lay (o := HO.tup [x, y]) hT).le r2.r
    simp only [DL.Reps]
    exact ⟨x, [y], rfl, Rep.mono (le.trans l2) _ _ (hx i p x hp ex), y, [], rfl, Rep.mono (le.trans l2) _ _ (hy i p y hp ey), rfl⟩
section
variable {X : Cx} {C : Cfg} {e e2 : Expr} {elts : List Expr} {kk : Nat} {tpos p pos : Pos}
/-- zip of two lists or two tuples -/
def zipD : List D → Option (List (D × D))
  | [.lst xs, .lst ys] => some (xs.zip ys)
  | [.tup xs, .tup ys] => some (xs.zip ys)
  | _ => none
theorem zipD_inv {ds : List D} {ps : List (D × D)} (h : zipD ds = some ps) : (∃ xs ys, ds = [.lst xs, .lst ys] ∧ ps = xs.zip ys) ∨ (∃ xs ys, ds = [.tup xs, .tup ys] ∧ ps = xs.zip ys) := by
  unfold zipD at h
  split at h
  · cases h; exact .inl ⟨_, _, rfl, rfl⟩
  · cases h; exact .inr ⟨_, _, rfl, rfl⟩
  · cases h
def iZipD (fa : ES (List D)) : ES (List D) := fun ε S => (fa ε S).bind fun ds ε S => R.opt ((zipD ds).map fun ps => ps.map fun p => .tup [p.1, p.2]) ε S
theorem walk_zipT {K : PySem.W.Frag} {a b : Addr} {xs ys : List V} {n : Nat} (hn : n = min xs.length ys.length) : Walk (RZ.ItzT K a b) n (fun H => SqT K H a xs ∧ SqT K H b ys) (YPair (fun i => xs[i]?) (fun i => ys[i]?)) := by
  refine ⟨fun i H hi h => ?_, fun H h => ?_, fun i H x H' hi h y => ?_⟩
  · have h1 : i < xs.length := by omega
    have h2 : i < ys.length := by omega
    exact ⟨xs, ys, xs[i], ys[i], h.1, h.2, List.getElem?_eq_getElem h1, List.getElem?_eq_getElem h2⟩
  · refine ⟨xs, ys, h.1, h.2, ?_⟩
    omega
  · obtain ⟨T, x1, x2, e1, hT, e2, f1, f2⟩ := y
    exact ⟨T, x1, x2, e1, hT, e2, f1 xs h.1, f2 ys h.2⟩
theorem zip_at {α β : Type} {xs : List α} {ys : List β} {i : Nat} {p : α × β} (h : (xs.zip ys)[i]? = some p) : xs[i]? = some p.1 ∧ ys[i]? = some p.2 := by
  have := List.getElem?_zip_eq_some.mp h
  exact this
theorem di_zip {fa : ES (List D)} (ha : DA X C [e, e2] fa) (h : ∀ {A : TA}, PA X [e, e2] A → PI X (.Tuple elts kk tpos) (.Call (.Name "zip" p) [e, e2] [] pos) (RZ.iZipA X.K A)) : DI X C (.Tuple elts kk tpos) (.Call (.Name "zip" p) [e, e2] [] pos) (iZipD fa) := PI_imp (h ha) fun σ H P0 ⟨w, e1, e2, rl, q⟩ => by
  refine ⟨w, e1, e2, rl, POST.mono (POST.bind q) fun ds w1 s1 m1 r1 ⟨z1, z2, z3, q1⟩ vs hv => ?_⟩
  obtain ⟨zs, ez, q1⟩ := POST.opt q1
  obtain ⟨ps, ep, e3⟩ := Option.map_eq_some_iff.mp ez
  subst e3
  rcases zipD_inv ep with ⟨xs, ys, e4, e5⟩ | ⟨xs, ys, e4, e5⟩
  · subst e4; subst e5
    obtain ⟨v, v', e, h1, h2⟩ := reps2 hv
    obtain ⟨a, us, ea, k1, k2⟩ := rep_lst.mp h1
    obtain ⟨b, us', eb, k3, k4⟩ := rep_lst.mp h2
    subst e; subst ea; subst eb
    refine ⟨a, b, us, us', rfl, .inl ⟨k1.sq, k3.sq, ?_⟩⟩
    refine POST.now r1 q1 _ (iter_pair (xs := fun i => us[i]?) (ys := fun i => us'[i]?) (G := fun H => SqL X.K H a us ∧ SqL X.K H b us') (ps := xs.zip ys) ?_ ?_ (fun w2 m r2 => ⟨((m.le r1.r).fzL k1).sq, ((m.le r1.r).fzL k3).sq⟩) (fun i p x hp hx => ?_) (fun i p y hp hy => ?_) r1)
    · rw [List.length_zip, ← k2.length]
      exact Nat.le_trans (Nat.min_le_left _ _) (r1.fzLen k1)
    · exact walk_zip (by rw [List.length_zip, k2.length, k4.length])
    · obtain ⟨u, j1, j2⟩ := Reps.get k2 (zip_at hp).1
      rw [j1] at hx; cases hx; exact j2
    · obtain ⟨u, j1, j2⟩ := Reps.get k4 (zip_at hp).2
      rw [j1] at hy; cases hy; exact j2
  · subst e4; subst e5
    obtain ⟨v, v', e, h1, h2⟩ := reps2 hv
    obtain ⟨a, us, ea, k1, k2⟩ := rep_tup.mp h1
    obtain ⟨b, us', eb, k3, k4⟩ := rep_tup.mp h2
    subst e; subst ea; subst eb
    refine ⟨a, b, us, us', rfl, .inr ⟨k1.sq, k3.sq, ?_⟩⟩
    refine POST.now r1 q1 _ (iter_pair (xs := fun i => us[i]?) (ys := fun i => us'[i]?) (G := fun H => SqT X.K H a us ∧ SqT X.K H b us') (ps := xs.zip ys) ?_ ?_ (fun w2 m r2 => ⟨((m.le r1.r).sqT k1).sq, ((m.le r1.r).sqT k3).sq⟩) (fun i p x hp hx => ?_) (fun i p y hp hy => ?_) r1)
    · rw [List.length_zip, ← k2.length]
      exact Nat.le_trans (Nat.min_le_left _ _) (r1.tpLen k1)
    · exact walk_zipT (by rw [List.length_zip, k2.length, k4.length])
    · obtain ⟨u, j1, j2⟩ := Reps.get k2 (zip_at hp).1
      rw [j1] at hx; cases hx; exact j2
    · obtain ⟨u, j1, j2⟩ := Reps.get k4 (zip_at hp).2
      rw [j1] at hy; cases hy; exact j2
end
end DL
namespace DL
open L2 PyProof.Rows PySem PySem.Spec
variable [TabT]
/-! ### changes -/
inductive Plc where
  | slot (i : Nat) | sto (n : Nat)
def Ws.At (w : Ws) : Plc → Addr → Prop
  | .slot i, p => w.σ[i]? = some (some (.ref p))
  | .sto n, p => w.ρ[n]? = some p
def getM : Plc → EV → Sto → Option MO
  | .slot i, ε, _ => match ε[i]? with
    | some (some (.own m)) => some m
    | _ => none
  | .sto n, _, S => S[n]?
theorem getM_slot {i : Nat} {ε : EV} {S : Sto} {m : MO} (g : getM (.slot i) ε S = some m) : ε[i]? = some (some (.own m)) := by
  have g : (match ε[i]? with
    | some (some (.own m)) => some m
    | _ => none) = some m := g
  split at g
  · rename_i m1 e
    cases g; exact e
  · cases g
def putE : Plc → MO → EV → EV
  | .slot i, m, ε => ε.set i (some (.own m))
  | .sto _, _, ε => ε
def putS : Plc → MO → Sto → Sto
  | .slot _, _, S => S
  | .sto n, m, S => S.set n m
/-- what an object holds -/
def MC (K : PySem.W.Frag) (Z : Addr → Prop) (ρ : List Addr) (H : Hp) : MO → HO → Prop
  | .lst ds, o => ∃ vs, o = .lst vs ∧ Reps K Z ρ H ds vs
  | .dic t ks ds, o => ∃ vs, ((t = false ∧ ∃ kvs : List (Key × V), o = .dK kvs ∧ ks = kvs.map (fun p => keyD p.1) ∧ vs = kvs.map (·.2)) ∨
      (t = true ∧ ∃ kvs : List (List Key × V), o = .dT kvs ∧ ks = kvs.map (fun p => D.tup (p.1.map keyD)) ∧ vs = kvs.map (·.2))) ∧ Reps K Z ρ H ds vs
  | .obj C fs, o => ∃ dx gs, o = .ins C dx gs ∧ FldAt K Z ρ H fs gs
theorem MC.fix {K : PySem.W.Frag} {Z : Addr → Prop} {ρ : List Addr} {H : Hp} {m : MO} {o : HO} (h : MC K Z ρ H m o) : ¬ Fixed o := by
  cases m with
  | lst ds => obtain ⟨vs, e, _⟩ := h; subst e; exact fun z => z
  | dic tk ks ds =>
    obtain ⟨vs, ⟨_, kvs, e, _⟩ | ⟨_, kvs, e, _⟩, _⟩ := h
    · subst e; exact fun z => z
    · subst e; exact fun z => z
  | obj C fs => obtain ⟨dx, gs, e, _⟩ := h; subst e; exact fun z => z
theorem MOk.mc {K : PySem.W.Frag} {Z : Addr → Prop} {ρ : List Addr} {H : Hp} {p : Addr} {m : MO} (h : MOk K Z ρ H p m) : ∃ o, H p = some o ∧ MC K Z ρ H m o := by
  cases m with
  | lst ds => obtain ⟨vs, e, q⟩ := h; exact ⟨_, e, vs, rfl, q⟩
  | dic tk ks ds =>
    obtain ⟨vs, ⟨et, kvs, e, e1⟩ | ⟨et, kvs, e, e1⟩, q⟩ := h
    · exact ⟨_, e, vs, .inl ⟨et, kvs, rfl, e1⟩, q⟩
    · exact ⟨_, e, vs, .inr ⟨et, kvs, rfl, e1⟩, q⟩
  | obj C fs => obtain ⟨dx, gs, e, q⟩ := h; exact ⟨_, e, dx, gs, rfl, q⟩
theorem MC.ok {K : PySem.W.Frag} {Z : Addr → Prop} {ρ : List Addr} {H : Hp} {p : Addr} {m : MO} {o : HO} (e : H p = some o) (h : MC K Z ρ H m o) : MOk K Z ρ H p m := by
  cases m with
  | lst ds => obtain ⟨vs, e1, q⟩ := h; subst e1; exact ⟨vs, e, q⟩
  | dic tk ks ds =>
    obtain ⟨vs, ⟨et, kvs, e1, e2⟩ | ⟨et, kvs, e1, e2⟩, q⟩ := h
    · subst e1; exact ⟨vs, .inl ⟨et, kvs, e, e2⟩, q⟩
    · subst e1; exact ⟨vs, .inr ⟨et, kvs, e, e2⟩, q⟩
  | obj C fs => obtain ⟨dx, gs, e1, q⟩ := h; subst e1; exact ⟨dx, gs, e, q⟩
theorem MC.mono {K : PySem.W.Frag} {w w' : Ws} (m : Le w w') {x : MO} {o : HO} (h : MC K w.Z w.ρ w.H x o) : MC K w'.Z w'.ρ w'.H x o := by
  cases x with
  | lst ds => obtain ⟨vs, e, q⟩ := h; exact ⟨vs, e, Reps.mono m _ _ q⟩
  | dic tk ks ds => obtain ⟨vs, e, q⟩ := h; exact ⟨vs, e, Reps.mono m _ _ q⟩
  | obj C fs => obtain ⟨dx, gs, e, q⟩ := h; exact ⟨dx, gs, e, FldAt.mono m _ _ q⟩
theorem nodup_at {l : List Nat} (h : l.Nodup) {i j : Nat} {x : Nat} (a : l[i]? = some x) (b : l[j]? = some x) : i = j := by
  obtain ⟨l1, g1⟩ := List.getElem?_eq_some_iff.mp a
  obtain ⟨l2, g2⟩ := List.getElem?_eq_some_iff.mp b
  rcases Nat.lt_trichotomy i j with h1 | h1 | h1
  · exact absurd (g1.trans g2.symm) (List.pairwise_iff_getElem.mp h i j l1 l2 h1)
  · exact h1
  · exact absurd (g2.trans g1.symm) (List.pairwise_iff_getElem.mp h j i l2 l1 h1)
section
variable {K : PySem.W.Frag} {C : Cfg} {w : Ws} {l : Plc} {p : Addr} {m m' : MO} {o' : HO}
theorem getM_ok (r : Rel K w) (a : w.At l p) (g : getM l w.ε w.S = some m) : w.MOk K p m ∧ ¬ w.Z p := by
  cases l with
  | slot i =>
    have e := getM_slot g
    obtain ⟨q, s, h, _, z⟩ := r.own i m e
    have a : w.σ[i]? = some (some (.ref p)) := a
    rw [s] at a; cases a
    exact ⟨h, z⟩
  | sto n => exact ⟨r.sto n m p g a, fun z => r.zfree p z (List.mem_of_getElem? a)⟩
/-- the state with the place rewritten -/
abbrev Ws.alt (w : Ws) (l : Plc) (m : MO) (p : Addr) (o : HO) : Ws := { w with ε := putE l m w.ε, S := putS l m w.S, H := upd w.H p o }
theorem Own.alt (r : Rel K w) (a : w.At l p) (g : getM l w.ε w.S = some m) {q : Addr} : Own (putE l m' w.ε) w.σ q ↔ Own w.ε w.σ q := by
  cases l with
  | sto n => exact Iff.rfl
  | slot i =>
    have a : w.σ[i]? = some (some (.ref p)) := a
    have ge : w.ε[i]? = some (some (.own m)) := by
      exact getM_slot (S := w.S) g
    constructor
    · rintro ⟨j, x, e, s⟩
      rcases set_cases e with ⟨e1, _, _⟩ | ⟨_, e1⟩
      · subst e1; exact ⟨j, m, ge, s⟩
      · exact ⟨j, x, e1, s⟩
    · rintro ⟨j, x, e, s⟩
      by_cases h : j = i
      · subst h
        exact ⟨j, m', List.getElem?_set_self (List.getElem?_eq_some_iff.mp ge).1, s⟩
      · exact ⟨j, x, by rw [show putE (.slot i) m' w.ε = w.ε.set i (some (.own m')) from rfl, List.getElem?_set_ne (Ne.symm h)]; exact e, s⟩
theorem RelC.alt (r : RelC K C w) (a : w.At l p) (g : getM l w.ε w.S = some m) (so : SzOk o') (h : MC K w.Z w.ρ w.H m' o') : RelC K C (w.alt l m' p o') ∧ Mono w (w.alt l m' p o') ∧ Le w (w.alt l m' p o') := by
  obtain ⟨ho, hz⟩ := getM_ok r.r a g
  obtain ⟨o, hp, nf⟩ := ho.mu
  have nto : NT o := by
    obtain ⟨u, k, n⟩ := ho.mt
    rw [hp] at k; cases k; exact n
  have ne : ∀ b, b ≠ p → (w.alt l m' p o').H b = w.H b := fun b hb => upd_ne hb
  have le : Le w (w.alt l m' p o') := by
    refine ⟨fun _ h => h, ⟨[], by simp⟩, fun b u h f => ?_⟩
    rw [ne b fun z => ?_]
    · exact h
    · subst z
      rw [hp] at h; cases h
      exact f.elim hz nf
  have pin : p ∈ w.ρ ∨ Own w.ε w.σ p := by
    cases l with
    | sto n => exact .inl (List.mem_of_getElem? a)
    | slot i =>
      have e := getM_slot g
      exact .inr ⟨i, m, e, a⟩
  have ow := fun q => Own.alt (m' := m') r.r a g (q := q)
  have mo : Mono w (w.alt l m' p o') := by
    refine ⟨fun _ h => h, ⟨[], by simp⟩, fun b u h h1 h2 _ => ?_, fun _ h => .inl h, fun q h => .inl ((ow q).mp h), fun _ h => .inl h, fun b h => ?_⟩
    · rw [ne b fun z => ?_]
      · exact h
      · subst z; exact pin.elim h1 h2
    · by_cases e : b = p
      · subst e
        have : upd w.H b o' b = none := h
        rw [upd_same] at this; cases this
      · rw [ne b e] at h; exact h
  have at_p : (w.alt l m' p o').MOk K p m' := MC.ok upd_same (MC.mono le h)
  have old : ∀ {q : Addr} {x : MO}, q ≠ p → w.MOk K q x → (w.alt l m' p o').MOk K q x := fun hq k => MOk.mono le (fun o e => by rw [ne _ hq]; exact e) k
  refine ⟨⟨⟨?_, fun i d e => ?_, fun i x e => ?_, fun i j x y q e1 e2 s1 s2 => ?_, ?_, fun n x q e1 e2 => ?_, r.r.nd, r.r.zfree, fun q z => ?_⟩, r.m.trans mo, r.sz.put so (.inr ⟨o, hp, nf, nto⟩)⟩, mo, le⟩
  · cases l with
    | sto n => exact r.r.len
    | slot i => show (w.ε.set i _).length = _; rw [List.length_set]; exact r.r.len
  · have e' : w.ε[i]? = some (some (.val d)) := by
      cases l with
      | sto n => exact e
      | slot j =>
        rcases set_cases e with ⟨_, e1, _⟩ | ⟨_, e1⟩
        · cases e1
        · exact e1
    obtain ⟨v, s, k⟩ := r.r.val i d e'
    exact ⟨v, s, Rep.mono le d v k⟩
  · cases l with
    | sto n =>
      obtain ⟨q, s, k1, k2, k3⟩ := r.r.own i x e
      refine ⟨q, s, old (fun z => ?_) k1, k2, k3⟩
      subst z
      exact k2 (List.mem_of_getElem? a)
    | slot j =>
      rcases set_cases e with ⟨e1, e2, _⟩ | ⟨e0, e1⟩
      · subst e1; cases e2
        have e3 := getM_slot g
        obtain ⟨q, s, k1, k2, k3⟩ := r.r.own i m e3
        have a : w.σ[i]? = some (some (.ref p)) := a
        have s' := s
        rw [a] at s'; cases s'
        exact ⟨p, a, at_p, k2, k3⟩
      · obtain ⟨q, s, k1, k2, k3⟩ := r.r.own i x e1
        refine ⟨q, s, old (fun z => ?_) k1, k2, k3⟩
        subst z
        have e3 := getM_slot g
        exact e0 (r.r.apart i j x m q e1 e3 s a)
  · have back : ∀ (i : Nat) (x : MO), (putE l m' w.ε)[i]? = some (some (.own x)) → ∃ y, w.ε[i]? = some (some (.own y)) := fun i x e => by
      cases l with
      | sto n => exact ⟨x, e⟩
      | slot j =>
        rcases set_cases e with ⟨e1, _, _⟩ | ⟨_, e1⟩
        · subst e1
          have e3 := getM_slot g
          exact ⟨m, e3⟩
        · exact ⟨x, e1⟩
    obtain ⟨y1, b1⟩ := back i x e1
    obtain ⟨y2, b2⟩ := back j y e2
    exact r.r.apart i j y1 y2 q b1 b2 s1 s2
  · cases l with
    | slot i => exact r.r.slen
    | sto n => show (w.S.set n _).length = _; rw [List.length_set]; exact r.r.slen
  · cases l with
    | slot i =>
      refine old (fun z => ?_) (r.r.sto n x q e1 e2)
      subst z
      have e3 := getM_slot g
      obtain ⟨q', s, k1, k2, k3⟩ := r.r.own i m e3
      have a : w.σ[i]? = some (some (.ref q)) := a
      rw [a] at s; cases s
      exact k2 (List.mem_of_getElem? e2)
    | sto k =>
      have a : w.ρ[k]? = some p := a
      rcases set_cases e1 with ⟨e3, e4, _⟩ | ⟨e3, e4⟩
      · subst e3; subst e4
        have e2 : w.ρ[n]? = some q := e2
        rw [a] at e2; cases e2
        exact at_p
      · refine old (fun z => ?_) (r.r.sto n x q e4 e2)
        subst z
        obtain ⟨l1, g1⟩ := List.getElem?_eq_some_iff.mp (show w.ρ[n]? = some q from e2)
        obtain ⟨l2, g2⟩ := List.getElem?_eq_some_iff.mp a
        exact e3 (nodup_at r.r.nd e2 a)
  · obtain ⟨o, e, nt⟩ := r.r.zin q z
    by_cases h : q = p
    · subst h; exact ⟨_, upd_same, so.nt⟩
    · exact ⟨o, by rw [ne q h]; exact e, nt⟩
end
/-! the thing that is changed -/
def tO (K : PySem.W.Frag) (C : Cfg) (f : ES Plc) : TE := fun σ H Q => ∃ w : Ws, w.σ = σ ∧ w.H = H ∧ RelC K C w ∧ POST K C w (f w.ε w.S) fun l w' => ∀ p m, getM l w'.ε w'.S = some m → w'.At l p → Q (.ref p) w'.H
def DO (X : Cx) (C : Cfg) (e : Expr) (f : ES Plc) : Prop := PE X e (tO X.K C f)
section
variable {X : Cx} {C : Cfg} {e : Expr} {f : ES D} {pos : Pos}
def oSlot (i : Nat) : ES Plc := fun ε S => match getM (.slot i) ε S with
  | some _ => .ok (.slot i) ε S
  | none => .stuck
def oRef (f : ES D) : ES Plc := fun ε S => (f ε S).bind fun d ε S => match d with
  | .ref n => if n < S.length then .ok (.sto n) ε S else .stuck
  | _ => .stuck
theorem do_slot' {i : Nat} (h : PE X e (tVar i)) : DO X C e (oSlot i) := PE_imp h fun σ H Q ⟨w, e1, e2, rl, q⟩ => by
  subst e1; subst e2
  unfold oSlot at q
  cases g : getM (.slot i) w.ε w.S with
  | none => rw [g] at q; exact q.elim
  | some m =>
    rw [g] at q
    have g' := g
    have e3 := getM_slot g'
    obtain ⟨p, s, _⟩ := rl.r.own i m e3
    exact ⟨.ref p, s, POST.now rl q p m g s⟩
theorem do_slot (i : Nat) {x : Str} (hN : X.N[i]? = some x := by rfl) (hv : Vis X.env.scope x := by first | exact Or.inl rfl | exact Or.inr (Or.inl rfl) | exact Or.inr (Or.inr rfl)) (hd : (x == ("__debug__" : Str)) = false := by decide)
    (hcd : (x == ("__classdict__" : Str)) = false := by decide) : DO X C (.Name x pos) (oSlot i) := do_slot' (pe_var hN hv hd hcd)
theorem do_ref (h : DE X C e f) : DO X C e (oRef f) := PE_imp h fun σ H Q ⟨w, e1, e2, rl, q⟩ => by
  refine ⟨w, e1, e2, rl, POST.mono (POST.bind q) fun d w1 s1 m1 r1 ⟨z1, z2, z3, q1⟩ v hv => ?_⟩
  cases d with
  | ref n =>
    dsimp only at q1
    simp only [DL.Rep] at hv
    obtain ⟨a, ev, ha⟩ := hv
    by_cases hn : n < w1.S.length
    · rw [if_pos hn] at q1
      rw [ev]
      exact POST.now r1 q1 a _ (List.getElem?_eq_getElem hn) ha
    · rw [if_neg hn] at q1; exact q1.elim
  | _ => exact q1.elim
end
/-! methods that change -/
def tyM (T : String) : MO → Bool
  | .lst _ => T == "list"
  | .dic _ _ _ => T == "dict"
  | .obj _ _ => false
theorem tyM_ty {K : PySem.W.Frag} {Z : Addr → Prop} {ρ : List Addr} {H : Hp} {T : String} {p : Addr} {m : MO} (h : MOk K Z ρ H p m) (t : tyM T m = true) : tyV K T (.ref p) H := by
  cases m with
  | lst ds =>
    obtain ⟨vs, e, _⟩ := h
    exact .inl ⟨eq_of_beq t, vs, .inl (.inl e)⟩
  | dic tk ks ds =>
    obtain ⟨vs, ⟨et, kvs, e, e1⟩ | ⟨et, kvs, e, e1⟩, q⟩ := h
    · exact .inr (.inr (.inl ⟨eq_of_beq t, .inl ⟨kvs, e⟩⟩))
    · exact .inr (.inr (.inl ⟨eq_of_beq t, .inr ⟨kvs, e⟩⟩))
  | obj C fs => cases t
def MutG (K : PySem.W.Frag) (r : V → List V → Hp → VK → Prop) (op : MO → List D → Option (D × MO)) : Prop :=
  ∀ (Z : Addr → Prop) (ρ : List Addr) (H : Hp) (p : Addr) (m : MO) (ds : List D) (xs : List V) (d : D) (m' : MO) (Q : VK), SzH H → MOk K Z ρ H p m → Reps K Z ρ H ds xs → op m ds = some (d, m') →
    (∀ v o, SzOk o → MC K Z ρ H m' o → Rep K Z ρ H d v → Q v (upd H p o)) → r (.ref p) xs H Q
def eMut (T : String) (fo : ES Plc) (op : MO → List D → Option (D × MO)) (fa : ES (List D)) : ES D := fun ε S => (fo ε S).bind fun l ε S => match getM l ε S with
  | none => .stuck
  | some m0 => if tyM T m0 then (fa ε S).bind fun ds ε S => match getM l ε S with
    | none => .stuck
    | some m => match op m ds with
      | none => .stuck
      | some (d, m') => .ok d (putE l m' ε) (putS l m' S)
    else .stuck
theorem At.mono {K : PySem.W.Frag} {w w' : Ws} {l : Plc} {p : Addr} (m : Mono w w') (s : w'.σ = w.σ) (a : w.At l p) : w'.At l p := by
  cases l with
  | slot i => show w'.σ[i]? = _; rw [s]; exact a
  | sto n =>
    obtain ⟨k, e⟩ := m.pre
    show w'.ρ[n]? = _
    rw [e, List.getElem?_append_left (List.getElem?_eq_some_iff.mp a).1]
    exact a
section
variable {X : Cx} {C : Cfg} {o e : Expr} {es : List Expr} {name : Str} {apos cpos : Pos} {T id : String} {r : V → List V → Hp → VK → Prop} {op : MO → List D → Option (D × MO)} {fo : ES Plc} {fa : ES (List D)}
theorem mut_step (ok : MutG X.K r op) {w1 : Ws} {l : Plc} {p : Addr} {m0 : MO} {Q : VK} (r1 : RelC X.K C w1) (g0 : getM l w1.ε w1.S = some m0) (a : w1.At l p)
    (q : POST X.K C w1 ((fa w1.ε w1.S).bind fun ds ε S => match getM l ε S with
      | none => .stuck
      | some m => match op m ds with
        | none => .stuck
        | some (d, m') => .ok d (putE l m' ε) (putS l m' S)) (qE X.K Q)) : tA X.K C fa w1.σ w1.H fun xs H2 => r (.ref p) xs H2 Q := by
  refine ⟨w1, rfl, rfl, r1, POST.mono (POST.bind q) fun ds w2 s2 m2 r2 ⟨z1, z2, z3, q2⟩ xs hx => ?_⟩
  have a2 := At.mono (K := X.K) m2 s2 a
  cases g : getM l w2.ε w2.S with
  | none => rw [g] at q2; exact q2.elim
  | some m =>
    rw [g] at q2
    dsimp only at q2
    cases hop : op m ds with
    | none => rw [hop] at q2; exact q2.elim
    | some dm =>
      obtain ⟨d, m'⟩ := dm
      rw [hop] at q2
      dsimp only at q2
      refine ok w2.Z w2.ρ w2.H p m ds xs d m' Q r2.sz (getM_ok r2.r a2 g).1 hx hop fun v o' so mc hv => ?_
      obtain ⟨r3, m3, l3⟩ := RelC.alt r2 a2 g so mc
      exact q2 (w2.alt l m' p o') rfl rfl rfl m3 r3 v (Rep.mono l3 d v hv)
theorem de_mut (ok : MutG X.K r op) (pa : PlainAttrs T) (slot : Slot T name id) (hty : typeOf (.builtin id) = pure (.type "method_descriptor")) (hm : MtR X id r) (ho : DO X C o fo) (ha : DA X C (e :: es) fa)
    (hbase : attributeBase o name X.env (eval o X.env) = eval o X.env := by rfl)
    (hfew : ((backTo cpos (starEach (e :: es) X.env)).all (fun x => !x.1) && (backToKw cpos (keywordEach [] X.env)).all (fun x => x.1.isSome)
      && decide ((e :: es).length + ([] : List Keyword).length + (if ([] : List Keyword).isEmpty then 0 else 1) < 30)) = true := by rfl)
    (hline : (apos.endLine == cpos.line) = true := by rfl) (hs : starEach (e :: es) X.env = (false, eval e X.env) :: starEach es X.env := by rfl) (hplain : (backTo cpos (starEach es X.env)).any (·.1) = false := by rfl) :
    DE X C (.Call (.Attribute o name apos) (e :: es) [] cpos) (eMut T fo op fa) := PE_imp (pe_bm pa slot hty hm ho ha hbase hfew hline hs hplain) fun σ H Q ⟨w, e1, e2, rl, q⟩ => by
  refine ⟨w, e1, e2, rl, POST.mono (POST.bind q) fun l w1 s1 m1 r1 ⟨z1, z2, z3, q1⟩ p m0 g0 a => ?_⟩
  rw [g0] at q1
  dsimp only at q1
  by_cases ht : tyM T m0 = true
  · rw [if_pos ht] at q1
    refine ⟨tyM_ty (getM_ok r1.r a g0).1 ht, ?_⟩
    rw [show σ = w1.σ from (s1.trans e1).symm]
    exact mut_step ok r1 g0 a q1
  · rw [if_neg ht] at q1; exact q1.elim
theorem de_mut0 (ok : MutG X.K r op) (pa : PlainAttrs T) (slot : Slot T name id) (hty : typeOf (.builtin id) = pure (.type "method_descriptor")) (hm : MtR X id r) (ho : DO X C o fo)
    (hbase : attributeBase o name X.env (eval o X.env) = eval o X.env := by rfl) (hline : (apos.endLine == cpos.line) = true := by rfl) :
    DE X C (.Call (.Attribute o name apos) [] [] cpos) (eMut T fo op fun ε S => .ok [] ε S) := PE_imp (pe_bm0 pa slot hty hm ho hbase hline) fun σ H Q ⟨w, e1, e2, rl, q⟩ => by
  refine ⟨w, e1, e2, rl, POST.mono (POST.bind q) fun l w1 s1 m1 r1 ⟨z1, z2, z3, q1⟩ p m0 g0 a => ?_⟩
  rw [g0] at q1
  dsimp only at q1
  by_cases ht : tyM T m0 = true
  · rw [if_pos ht] at q1
    refine ⟨tyM_ty (getM_ok r1.r a g0).1 ht, ?_⟩
    obtain ⟨w2, h1, h2, h3, h4⟩ := mut_step (fa := fun ε S => .ok [] ε S) ok r1 g0 a q1
    have h5 := POST.at h4 (Mono.refl w2) h3 rfl rfl rfl [] (by simp [DL.Reps])
    rw [h2] at h5
    exact h5
  · rw [if_neg ht] at q1; exact q1.elim
end
end DL
namespace DL
open L2 PyProof.Rows PySem PySem.Spec
variable [TabT]
section
variable {K : PySem.W.Frag}
theorem reps_cat {Z : Addr → Prop} {ρ : List Addr} {H : Hp} : ∀ {as bs : List D} {vs ws : List V}, Reps K Z ρ H as vs → Reps K Z ρ H bs ws → Reps K Z ρ H (as ++ bs) (vs ++ ws)
  | [], bs, vs, ws, h1, h2 => by
    simp only [DL.Reps] at h1
    subst h1; exact h2
  | a :: as, bs, vs, ws, h1, h2 => by
    simp only [DL.Reps] at h1
    obtain ⟨v, us, e, h1, h3⟩ := h1
    subst e
    simp only [List.cons_append, DL.Reps]
    exact ⟨v, us ++ ws, rfl, h1, reps_cat h3 h2⟩
theorem reps_erase {Z : Addr → Prop} {ρ : List Addr} {H : Hp} : ∀ {as : List D} {vs : List V} (i : Nat), Reps K Z ρ H as vs → Reps K Z ρ H (as.eraseIdx i) (vs.eraseIdx i)
  | [], vs, i, h => by
    simp only [DL.Reps] at h
    subst h; simp [DL.Reps]
  | a :: as, vs, 0, h => by
    simp only [DL.Reps] at h
    obtain ⟨v, us, e, h1, h3⟩ := h
    subst e
    exact h3
  | a :: as, vs, i + 1, h => by
    simp only [DL.Reps] at h
    obtain ⟨v, us, e, h1, h3⟩ := h
    subst e
    simp only [List.eraseIdx_cons_succ, DL.Reps]
    exact ⟨v, _, rfl, h1, reps_erase i h3⟩
theorem reps_setAt {Z : Addr → Prop} {ρ : List Addr} {H : Hp} {d : D} {v : V} (hv : Rep K Z ρ H d v) : ∀ {as : List D} {vs : List V} (i : Nat), Reps K Z ρ H as vs → Reps K Z ρ H (as.set i d) (vs.set i v)
  | [], vs, i, h => by
    simp only [DL.Reps] at h
    subst h; simp [DL.Reps]
  | a :: as, vs, 0, h => by
    simp only [DL.Reps] at h
    obtain ⟨u, us, e, h1, h3⟩ := h
    subst e
    simp only [List.set_cons_zero, DL.Reps]
    exact ⟨v, us, rfl, hv, h3⟩
  | a :: as, vs, i + 1, h => by
    simp only [DL.Reps] at h
    obtain ⟨u, us, e, h1, h3⟩ := h
    subst e
    simp only [List.set_cons_succ, DL.Reps]
    exact ⟨u, _, rfl, h1, reps_setAt hv i h3⟩
theorem reps_dropLast {Z : Addr → Prop} {ρ : List Addr} {H : Hp} {as : List D} {vs : List V} (h : Reps K Z ρ H as vs) : Reps K Z ρ H as.dropLast vs.dropLast := by
  have e1 : as.dropLast = as.eraseIdx (as.length - 1) := List.eraseIdx_length_sub_one.symm
  have e2 : vs.dropLast = vs.eraseIdx (as.length - 1) := by
    rw [← h.length]
    exact List.eraseIdx_length_sub_one.symm
  rw [e1, e2]
  exact reps_erase _ h
theorem mok_lst {Z : Addr → Prop} {ρ : List Addr} {H : Hp} {p : Addr} {ds : List D} (h : MOk K Z ρ H p (.lst ds)) : ∃ vs, H p = some (.lst vs) ∧ Reps K Z ρ H ds vs := h
/-! lists -/
def mAppend : MO → List D → Option (D × MO)
  | .lst ds, [d] => if ds.length < sizeLine then some (.non, .lst (ds ++ [d])) else none
  | _, _ => none
theorem ok_append : MutG K rAppend mAppend := fun Z ρ H p m ds xs d m' Q sz ho hx hop g => by
  unfold mAppend at hop
  split at hop
  · rename_i ys y
    obtain ⟨vs, e, q⟩ := mok_lst ho
    obtain ⟨v, ev, h1⟩ := reps1 hx
    subst ev
    split at hop
    · rename_i hl
      cases hop
      refine ⟨p, vs, v, rfl, rfl, e, by rw [q.length]; exact hl, g .non _ ?_ ⟨vs ++ [v], rfl, reps_cat q hx⟩ (by simp [DL.Rep])⟩
      show (vs ++ [v]).length ≤ sizeLine
      rw [List.length_append, q.length]
      exact hl
    · cases hop
  · cases hop
def mPop : MO → List D → Option (D × MO)
  | .lst ds, [] => (ds[ds.length - 1]?).map fun d => (d, .lst ds.dropLast)
  | _, _ => none
theorem ok_pop : MutG K rPop mPop := fun Z ρ H p m ds xs d m' Q sz ho hx hop g => by
  unfold mPop at hop
  split at hop
  · rename_i ys
    obtain ⟨vs, e, q⟩ := mok_lst ho
    simp only [DL.Reps] at hx
    subst hx
    obtain ⟨y, h1, h2⟩ := Option.map_eq_some_iff.mp hop
    cases h2
    obtain ⟨v, k1, k2⟩ := Reps.get q h1
    refine ⟨p, vs, v, rfl, rfl, e, by rw [q.length]; exact k1, g v _ ?_ ⟨vs.dropLast, rfl, reps_dropLast q⟩ k2⟩
    have := sz p _ e
    show vs.dropLast.length ≤ sizeLine
    rw [List.length_dropLast]
    exact Nat.le_trans (Nat.sub_le _ _) this
  · cases hop
def mPopAt : MO → List D → Option (D × MO)
  | .lst ds, [.int i] => if -9223372036854775808 ≤ i ∧ i < 9223372036854775808 then (ixN ds.length i).bind fun k => (ds[k]?).map fun d => (d, .lst (ds.eraseIdx k)) else none
  | _, _ => none
theorem ok_popAt : MutG K rPopAt mPopAt := fun Z ρ H p m ds xs d m' Q sz ho hx hop g => by
  unfold mPopAt at hop
  split at hop
  · rename_i ys i
    obtain ⟨vs, e, q⟩ := mok_lst ho
    obtain ⟨v, ev, h1⟩ := reps1 hx
    rw [rep_int] at h1
    subst ev; subst h1
    split at hop
    · rename_i hb
      obtain ⟨k, hk, hop⟩ := bind_some hop
      obtain ⟨y, h1, h2⟩ := Option.map_eq_some_iff.mp hop
      cases h2
      obtain ⟨u, k1, k2⟩ := Reps.get q h1
      refine ⟨p, vs, i, k, u, rfl, rfl, e, hb.1, hb.2, by rw [q.length]; exact (ixN_seq hk).1, k1, g u _ ?_ ⟨vs.eraseIdx k, rfl, reps_erase k q⟩ k2⟩
      exact Nat.le_trans (len_erase vs k) (sz p _ e)
    · cases hop
  · cases hop
def mExtend : MO → List D → Option (D × MO)
  | .lst ds, [.lst ys] => if ds.length + ys.length ≤ sizeLine then some (.non, .lst (ds ++ ys)) else none
  | _, _ => none
end
section
variable {X : Cx} {C : Cfg} {o e : Expr} {es : List Expr} {apos cpos : Pos} {fo : ES Plc} {fa : ES (List D)}
theorem de_append (ho : DO X C o fo) (ha : DA X C [e] fa) (hbase : attributeBase o "append" X.env (eval o X.env) = eval o X.env := by rfl)
    (hfew : ((backTo cpos (starEach [e] X.env)).all (fun x => !x.1) && (backToKw cpos (keywordEach [] X.env)).all (fun x => x.1.isSome)
      && decide (([e]).length + ([] : List Keyword).length + (if ([] : List Keyword).isEmpty then 0 else 1) < 30)) = true := by rfl)
    (hline : (apos.endLine == cpos.line) = true := by rfl) (hs : starEach [e] X.env = (false, eval e X.env) :: starEach [] X.env := by rfl) (hplain : (backTo cpos (starEach [] X.env)).any (·.1) = false := by rfl) :
    DE X C (.Call (.Attribute o "append" apos) [e] [] cpos) (eMut "list" fo mAppend fa) :=
  de_mut ok_append PySem.F.plainAttrs_list PySem.F.slot_list_append PySem.F.type_list_append mt_append ho ha hbase hfew hline hs hplain
theorem de_pop (ho : DO X C o fo) (hbase : attributeBase o "pop" X.env (eval o X.env) = eval o X.env := by rfl) (hline : (apos.endLine == cpos.line) = true := by rfl) :
    DE X C (.Call (.Attribute o "pop" apos) [] [] cpos) (eMut "list" fo mPop fun ε S => .ok [] ε S) :=
  de_mut0 ok_pop PySem.F.plainAttrs_list PySem.F.slot_list_pop PySem.F.type_list_pop mt_pop ho hbase hline
theorem de_popAt (ho : DO X C o fo) (ha : DA X C [e] fa) (hbase : attributeBase o "pop" X.env (eval o X.env) = eval o X.env := by rfl)
    (hfew : ((backTo cpos (starEach [e] X.env)).all (fun x => !x.1) && (backToKw cpos (keywordEach [] X.env)).all (fun x => x.1.isSome)
      && decide (([e]).length + ([] : List Keyword).length + (if ([] : List Keyword).isEmpty then 0 else 1) < 30)) = true := by rfl)
    (hline : (apos.endLine == cpos.line) = true := by rfl) (hs : starEach [e] X.env = (false, eval e X.env) :: starEach [] X.env := by rfl) (hplain : (backTo cpos (starEach [] X.env)).any (·.1) = false := by rfl) :
    DE X C (.Call (.Attribute o "pop" apos) [e] [] cpos) (eMut "list" fo mPopAt fa) :=
  de_mut ok_popAt PySem.F.plainAttrs_list PySem.F.slot_list_pop PySem.F.type_list_pop mt_popAt ho ha hbase hfew hline hs hplain
end
/-! o[i] = d -/
def SetG (K : PySem.W.Frag) (t : TSet) (op : MO → D → D → Option MO) : Prop :=
  ∀ (Z : Addr → Prop) (ρ : List Addr) (H : Hp) (p : Addr) (m : MO) (di d : D) (i v : V) (m' : MO) (Q : Hp → Prop), SzH H → MOk K Z ρ H p m → Rep K Z ρ H di i → Rep K Z ρ H d v → op m di d = some m' →
    (∀ o, SzOk o → MC K Z ρ H m' o → Q (upd H p o)) → t (.ref p) i v H Q
def mSetL : MO → D → D → Option MO
  | .lst ds, .int i, d => (ixN ds.length i).map fun j => .lst (ds.set j d)
  | _, _, _ => none
theorem ok_setL {K : PySem.W.Frag} : SetG K rSetL mSetL := fun Z ρ H p m di d i v m' Q sz ho hi hv hop g => by
  unfold mSetL at hop
  split at hop
  · rename_i ys k
    obtain ⟨vs, e, q⟩ := mok_lst ho
    rw [rep_int] at hi
    obtain ⟨j, h1, h2⟩ := Option.map_eq_some_iff.mp hop
    cases h2
    refine ⟨p, vs, k, j, rfl, hi, e, by rw [q.length]; exact h1, g _ ?_ ⟨vs.set j v, rfl, reps_setAt hv j q⟩⟩
    show (vs.set j v).length ≤ sizeLine
    rw [List.length_set]
    exact sz p _ e
  · cases hop
def gSub (fo : ES Plc) (op : MO → D → D → Option MO) (fi : ES D) : GS := fun d ε S => (fo ε S).bind fun l ε S => (fi ε S).bind fun i ε S => match getM l ε S with
  | none => .stuck
  | some m => match op m i d with
    | none => .stuck
    | some m' => .ok () (putE l m' ε) (putS l m' S)
theorem POSTG.bind {α : Type} {K : PySem.W.Frag} {C : Cfg} {w : Ws} {vs : List Nat} {r : R α} {k : α → ES Unit} {P : Ws → Prop} (h : POSTG K C w vs (r.bind k) P) :
    POST K C w r fun a w' => w'.σ = w.σ ∧ Mono w w' ∧ RelC K C w' ∧ POSTG K C w' vs (k a w'.ε w'.S) P := by
  cases r with
  | ok a ε S =>
    intro w' e1 e2 e3 m r
    refine ⟨e3, m, r, ?_⟩
    rw [e1, e2]
    exact POSTG.lift (us := []) m (by rw [← e3]; exact Sam.refl _ _) (fun i h => nomatch h) (fun i h => h) h
  | ex c ε S => exact False.elim h
  | stuck => exact False.elim h
section
variable {X : Cx} {C : Cfg} {o i e : Expr} {fo : ES Plc} {fi fe : ES D} {t : TSet} {op : MO → D → D → Option MO} {pos tpos : Pos}
theorem dg_sub (ok : SetG X.K t op) (ps : PSet X t) (ho : DO X C o fo) (hi : DE X C i fi) (ha : ∀ v, assign (.Subscript o i pos) X.env v = (do
      let ov ← holding [v] (eval o X.env)
      let iv ← holding [v, ov] (eval i X.env)
      standAt pos
      holding [v, ov, iv] (setItem ov iv v)
      release [v, ov, iv] []) := by intro _; rfl) : DG X C [] (.Subscript o i pos) (gSub fo op fi) := PG_imp (pg_sub ho hi ps ha) fun v σ H Q ⟨w, d, e1, e2, rl, hv, q⟩ => by
  subst e1; subst e2
  refine ⟨w, rfl, rfl, rl, POST.mono (POSTG.bind q) fun l w1 s1 m1 r1 ⟨z1, z2, z3, q1⟩ p m0 g0 a => ?_⟩
  refine ⟨w1, s1, rfl, r1, POST.mono (POSTG.bind q1) fun di w2 s2 m2 r2 ⟨z1, z2, z3, q2⟩ iv hiv => ?_⟩
  have a2 := At.mono (K := X.K) m2 s2 a
  cases g : getM l w2.ε w2.S with
  | none => rw [g] at q2; exact q2.elim
  | some m =>
    rw [g] at q2
    dsimp only at q2
    cases hop : op m di d with
    | none => rw [hop] at q2; exact q2.elim
    | some m' =>
      rw [hop] at q2
      dsimp only at q2
      refine ok w2.Z w2.ρ w2.H p m di d iv v m' _ r2.sz (getM_ok r2.r a2 g).1 hiv (Rep.mono ((m1.trans m2).le rl.r) d v hv) hop fun o' so mc => ?_
      obtain ⟨r3, m3, l3⟩ := RelC.alt r2 a2 g so mc
      have q3 := q2 (w2.alt l m' p o') rfl rfl (Sam.refl _ _) m3 r3
      rw [← s1, ← s2]
      exact q3
/-- o[i] op= e -/
def sAugS (fo : ES Plc) (fi : ES D) (get : MO → D → Option D) (fe : ES D) (ip : D → D → Option D) (op : MO → D → D → Option MO) : SS := fun ε S => (fo ε S).toS fun l ε S => (fi ε S).toS fun i ε S => match getM l ε S with
  | none => .stuck
  | some m => match get m i with
    | none => .stuck
    | some x => (fe ε S).toS fun y ε S => match ip x y with
      | none => .stuck
      | some z => match getM l ε S with
        | none => .stuck
        | some m => match op m i z with
          | none => .stuck
          | some m' => .nx (putE l m' ε) (putS l m' S)
end
end DL
namespace DL
open L2 PyProof.Rows PySem PySem.Spec PySem.F
variable [TabT]
theorem get_listP {X : Cx} : PGet X (rIxL X.K) := by
  intro pins s σ H o i ov iv Q I ro ri h
  obtain ⟨p, xs, k, z, rfl, rfl, hq, he, q⟩ := h
  cases ro
  obtain ⟨t, rfl⟩ := ri
  obtain ⟨its, r, pl, hz⟩ := I.list hq
  obtain ⟨j, h1, h2, h3, h4, h5⟩ := atI_get he
  obtain ⟨w, ew, rw'⟩ := r.get h2
  have hl := r.length
  have hn := line63
  have fin : EP X pins σ Q w s := ⟨z, H, I, rw', q⟩
  by_cases h0 : 0 ≤ k
  · have hj : k.toNat = j := by
      rw [seqIndex_of h0 h5] at h1
      exact Option.some.inj h1
    exact wpAny_getItem_list pl.isList h0 (by omega) (by rw [hj]; simpa using ew) fin
  · have hj : (k + (its.toArray.size : Int)).toNat = j := by
      rw [seqIndex_neg (by omega) h4] at h1
      rw [List.size_toArray, ← hl]
      exact Option.some.inj h1
    exact wpAny_getItem_list_neg pl.isList (by omega) (by rw [List.size_toArray] <;> omega) (by omega) (by rw [hj]; simpa using ew) fin
/-- name op= e, ints -/
def sAugI (i : Nat) (op : Int → Int → Int) (f : ES D) : SS := fun ε S => match ε[i]? with
  | some (some (.val (.int x))) => (f ε S).toS fun d ε S => match d with
    | .int y => .nx (ε.set i (some (.val (.int (op x y))))) S
    | _ => .stuck
  | _ => .stuck
/-- o[i] op= e, ints in a list -/
def sAugL (fo : ES Plc) (fi : ES D) (op : Int → Int → Int) (fe : ES D) : SS := fun ε S => (fo ε S).toS fun l ε S => (fi ε S).toS fun i ε S => match getM l ε S, i with
  | some (.lst ds), .int k => match atI ds k with
    | some (.int x) => (fe ε S).toS fun y ε S => match getM l ε S, y with
      | some (.lst ds), .int y => match ixN ds.length k with
        | some j => .nx (putE l (.lst (ds.set j (.int (op x y)))) ε) (putS l (.lst (ds.set j (.int (op x y)))) S)
        | none => .stuck
      | _, _ => .stuck
    | _ => .stuck
  | _, _ => .stuck
section
variable {X : Cx} {C : Cfg} {o i e : Expr} {fo : ES Plc} {fi fe : ES D} {op : Operator} {f : Int → Int → Int} {pos tpos : Pos}
theorem ds_augI (k : Nat) {x : Str} {pos' : Pos} (hN : X.N.Nodup) (ho : PIp X op (ipI f)) (he : DE X C e fe) (hi : X.N[k]? = some x := by rfl) (hx : Loc X.env.scope x := by first | exact Or.inl rfl | exact Or.inr rfl)
    (hf : X.fn x = true ∨ X.env.scope.names.lookup x = some .local := by first | exact .inl rfl | exact .inr rfl) : DS X C (.AugAssign (.Name x pos') op e pos) (sAugI k f fe) :=
  PS_imp (ps_aug hN hi hx he ho hf) fun E σ H ⟨w, e1, e2, rl, q⟩ => by
    subst e1; subst e2
    unfold sAugI at q
    split at q
    · rename_i x hε
      obtain ⟨v, hs, hv⟩ := rl.r.val k _ hε
      have hv := rep_int.mp hv
      refine ⟨v, hs, w, rfl, rfl, rl, POST.mono q.of fun d w1 s1 m1 r1 ⟨z1, z2, z3, q1⟩ u hu => ?_⟩
      cases d with
      | int y =>
        have hu := rep_int.mp hu
        have z := POSTS.nx_at q1 (Mono.setV (i := k) (d := .int (f x y)) (v := .int (f x y))) (r1.setV (rep_int.mpr rfl)) rfl rfl
        refine ⟨x, y, hv, hu, ?_⟩
        rw [← s1]
        exact z
      | _ => exact q1.elim
    · exact q.elim
theorem ds_augL (hop : PIp X op (ipI f)) (ho : DO X C o fo) (hi : DE X C i fi) (he : DE X C e fe)
    (ha : ∀ ov iv new, augStore i ov iv new = (do holding [new, ov, iv] (setItem ov iv new); release [new, ov, iv] []; pure .next) := by intros; rfl) : DS X C (.AugAssign (.Subscript o i tpos) op e pos) (sAugL fo fi f fe) :=
  PS_imp (ps_augS ho hi get_listP he hop set_list ha) fun E σ H ⟨w, e1, e2, rl, q⟩ => by
    subst e1; subst e2
    refine ⟨w, rfl, rfl, rl, POST.mono q.of fun l w1 s1 m1 r1 ⟨z1, z2, z3, q1⟩ p m0 g0 a => ?_⟩
    refine ⟨w1, s1, rfl, r1, POST.mono q1.of fun di w2 s2 m2 r2 ⟨z4, z5, z6, q2⟩ iv hiv => ?_⟩
    have a2 := At.mono (K := X.K) m2 s2 a
    split at q2
    · rename_i ds k g zz
      have hiv := rep_int.mp hiv
      split at q2
      · rename_i x hat
        obtain ⟨vs, hp, hr⟩ := mok_lst (getM_ok r2.r a2 g).1
        obtain ⟨v, k1, k2⟩ := reps_at hr hat
        have k2 := rep_int.mp k2
        refine ⟨p, vs, k, v, rfl, hiv, .inl (.inl hp), k1, ?_⟩
        refine ⟨w2, s2.trans s1, rfl, r2, POST.mono q2.of fun dy w3 s3 m3 r3 ⟨z7, z8, z9, q3⟩ yv hy => ?_⟩
        have a3 := At.mono (K := X.K) m3 s3 a2
        split at q3
        · rename_i es y g3 zz
          have hy := rep_int.mp hy
          obtain ⟨us, hp3, hr3⟩ := mok_lst (getM_ok r3.r a3 g3).1
          refine ⟨x, y, k2, hy, ?_⟩
          split at q3
          · rename_i j hj
            refine ⟨p, us, k, j, rfl, hiv, hp3, by rw [hr3.length]; exact hj, ?_⟩
            have so : SzOk (.lst (us.set j (.int (f x y)))) := by
              show (us.set j _).length ≤ sizeLine
              rw [List.length_set]; exact r3.sz p _ hp3
            obtain ⟨r4, m4, l4⟩ := RelC.alt (m' := .lst (es.set j (.int (f x y)))) r3 a3 g3 so ⟨_, rfl, reps_setAt (rep_int.mpr rfl) j hr3⟩
            have z := POSTS.nx_at q3 m4 r4 rfl rfl
            rw [show w.σ = w3.σ from (s3.trans (s2.trans s1)).symm]
            exact z
          · exact q3.elim
        · exact q3.elim
      · exact q2.elim
    · exact q2.elim
end
/-! ### new objects in the store -/
abbrev Ws.addS (w : Ws) (p : Addr) (m : MO) : Ws := { w with ρ := w.ρ ++ [p], S := w.S ++ [m] }
theorem RelC.addS {K : PySem.W.Frag} {C : Cfg} {w0 w : Ws} {p : Addr} {m : MO} (r : RelC K C w) (r0 : RelC K C w0) (m0 : Mono w0 w) (h0 : w0.H p = none) (l : Lone w p) (h : w.MOk K p m) :
    RelC K C (w.addS p m) ∧ Mono w0 (w.addS p m) ∧ Le w (w.addS p m) := by
  have le : Le w (w.addS p m) := ⟨fun _ h => h, ⟨[p], rfl⟩, fun _ _ h _ => h⟩
  have mo : Mono w0 (w.addS p m) := by
    refine ⟨m0.z, ?_, m0.keep, m0.zold, m0.own, fun q hq => ?_, m0.dom⟩
    · obtain ⟨k, e⟩ := m0.pre
      exact ⟨k ++ [p], by show w.ρ ++ [p] = _; rw [e, List.append_assoc]⟩
    · rcases List.mem_append.mp hq with h | h
      · exact m0.rho q h
      · rw [List.mem_singleton.mp h]; exact .inr h0
  refine ⟨⟨⟨r.r.len, fun i d e => ?_, fun i x e => ?_, r.r.apart, ?_, fun n x q e1 e2 => ?_, ?_, fun a z q => ?_, r.r.zin⟩, r0.m.trans mo, r.sz⟩, mo, le⟩
  · obtain ⟨v, s, k⟩ := r.r.val i d e
    exact ⟨v, s, Rep.mono le d v k⟩
  · obtain ⟨q, s, k1, k2, k3⟩ := r.r.own i x e
    refine ⟨q, s, MOk.mono le (fun _ h => h) k1, fun z => ?_, k3⟩
    rcases List.mem_append.mp z with z | z
    · exact k2 z
    · rw [List.mem_singleton.mp z] at s
      exact l.own ⟨i, x, e, s⟩
  · show (w.S ++ [m]).length = (w.ρ ++ [p]).length
    rw [List.length_append, List.length_append, r.r.slen]; rfl
  · have e1 : (w.S ++ [m])[n]? = some x := e1
    have e2 : (w.ρ ++ [p])[n]? = some q := e2
    by_cases hn : n < w.S.length
    · rw [List.getElem?_append_left hn] at e1
      rw [List.getElem?_append_left (by rw [← r.r.slen]; exact hn)] at e2
      exact MOk.mono le (fun _ h => h) (r.r.sto n x q e1 e2)
    · have hl := (List.getElem?_eq_some_iff.mp e1).1
      rw [List.length_append, List.length_singleton] at hl
      have en : n = w.S.length := by omega
      subst en
      rw [List.getElem?_append_right (Nat.le_refl _), Nat.sub_self] at e1
      rw [List.getElem?_append_right (by rw [← r.r.slen]; exact Nat.le_refl _), r.r.slen, Nat.sub_self] at e2
      cases e1; cases e2
      exact MOk.mono le (fun _ h => h) h
  · exact List.nodup_append.mpr ⟨r.r.nd, by simp, fun a ha b hb => by
      rw [List.mem_singleton.mp hb]
      intro z
      subst z
      exact l.ρ ha⟩
  · rcases List.mem_append.mp q with q | q
    · exact r.r.zfree a z q
    · rw [List.mem_singleton.mp q] at z
      exact l.z z
/-- what is new as an object of the store -/
def eNew (f : ES MO) : ES D := fun ε S => (f ε S).bind fun m ε S => .ok (.ref S.length) ε (S ++ [m])
theorem de_new {X : Cx} {C : Cfg} {e : Expr} {f : ES MO} (h : DF X C e f) : DE X C e (eNew f) := PE_imp h fun σ H Q ⟨w, e1, e2, rl, q⟩ => by
  subst e1; subst e2
  refine ⟨w, rfl, rfl, rl, ?_⟩
  unfold eNew at q
  cases hr : f w.ε w.S with
  | ok m ε S =>
    rw [hr] at q
    intro w1 k1 k2 k3 m1 r1 p hp l ho no
    obtain ⟨r2, m2, l2⟩ := RelC.addS r1 rl m1 hp l ho
    have q2 := q (w1.addS p m) k1 (by show w1.S ++ [m] = _; rw [k2]) k3 m2 r2
    refine q2 (.ref p) ?_
    simp only [DL.Rep]
    refine ⟨p, rfl, ?_⟩
    rw [← k2, r1.r.slen, List.getElem?_append_right (Nat.le_refl _), Nat.sub_self] <;> rfl
  | ex c ε S => rw [hr] at q; exact q
  | stuck => rw [hr] at q; exact q
end DL
namespace DL
open L2 PyProof.Rows PySem PySem.Spec
variable [TabT]
/-! ### fields -/
section
variable {K : PySem.W.Frag} {Z : Addr → Prop} {ρ : List Addr} {H : Hp}
theorem fld_at {f : Str} {d : D} : ∀ {fs : List (Str × D)} {gs : List (Str × V)}, FldAt K Z ρ H fs gs → fs.lookup f = some d → ∃ v, gs.lookup f = some v ∧ Rep K Z ρ H d v
  | [], gs, _, e => by simp at e
  | (g, x) :: fs, gs, h, e => by
    obtain ⟨v, hs, e1, h1, h2⟩ := h
    subst e1
    by_cases hg : (f == g) = true
    · simp only [List.lookup, hg] at e ⊢
      cases e
      exact ⟨v, rfl, h1⟩
    · have hg : (f == g) = false := by simpa using hg
      simp only [List.lookup, hg] at e ⊢
      exact fld_at h2 e
theorem fld_len : ∀ {fs : List (Str × D)} {gs : List (Str × V)}, FldAt K Z ρ H fs gs → gs.length = fs.length
  | [], gs, h => by
    have h : gs = [] := h
    rw [h]; rfl
  | (g, x) :: fs, gs, h => by
    obtain ⟨v, hs, e1, h1, h2⟩ := h
    rw [e1, List.length_cons, List.length_cons, fld_len h2]
theorem fld_none {m : Str} : ∀ {fs : List (Str × D)} {gs : List (Str × V)}, FldAt K Z ρ H fs gs → fs.lookup m = none → gs.lookup m = none
  | [], gs, h, _ => by
    have h : gs = [] := h
    rw [h]; rfl
  | (g, x) :: fs, gs, h, e => by
    obtain ⟨v, hs, e1, h1, h2⟩ := h
    subst e1
    by_cases hg : (m == g) = true
    · simp only [List.lookup, hg] at e
      cases e
    · have hg : (m == g) = false := by simpa using hg
      simp only [List.lookup, hg] at e ⊢
      exact fld_none h2 e
def putD (f : Str) (d : D) : List (Str × D) → List (Str × D)
  | [] => [(f, d)]
  | (g, x) :: r => if g = f then (g, d) :: r else (g, x) :: putD f d r
theorem fld_put {f : Str} {d : D} {v : V} (hv : Rep K Z ρ H d v) : ∀ {fs : List (Str × D)} {gs : List (Str × V)}, FldAt K Z ρ H fs gs → FldAt K Z ρ H (putD f d fs) (putF f v gs)
  | [], gs, h => by
    have h : gs = [] := h
    subst h
    exact ⟨v, [], rfl, hv, rfl⟩
  | (g, x) :: fs, gs, h => by
    obtain ⟨u, hs, e1, h1, h2⟩ := h
    subst e1
    unfold putD
    rw [show putF f v ((g, u) :: hs) = (if g = f then (g, v) :: hs else (g, u) :: putF f v hs) from rfl]
    by_cases e : g = f
    · rw [if_pos e, if_pos e]
      exact ⟨v, hs, rfl, hv, h2⟩
    · rw [if_neg e, if_neg e]
      exact ⟨u, _, rfl, h1, fld_put hv h2⟩
theorem putF_len (f : Str) (v : V) : ∀ gs : List (Str × V), (putF f v gs).length ≤ gs.length + 1
  | [] => Nat.le_refl _
  | (g, u) :: hs => by
    rw [show putF f v ((g, u) :: hs) = (if g = f then (g, v) :: hs else (g, u) :: putF f v hs) from rfl]
    by_cases e : g = f
    · rw [if_pos e]; exact Nat.le_succ _
    · rw [if_neg e]; exact Nat.succ_le_succ (putF_len f v hs)
end
/-- the field f of an instance of the class at c -/
def fldOf (c : Nat) (f : Str) (S : Sto) : D → Option D
  | .ref n => match S[n]? with
    | some (.obj c' fs) => if c' = c then fs.lookup f else none
    | _ => none
  | _ => none
theorem fldOf_some {c : Nat} {f : Str} {S : Sto} {x d : D} (h : fldOf c f S x = some d) : ∃ n fs, x = .ref n ∧ S[n]? = some (.obj c fs) ∧ fs.lookup f = some d := by
  cases x with
  | ref n =>
    have h2 : (match S[n]? with
      | some (.obj c' fs) => if c' = c then fs.lookup f else none
      | _ => none) = some d := h
    split at h2
    · rename_i c' fs e
      by_cases hc : c' = c
      · rw [if_pos hc] at h2
        exact ⟨n, fs, rfl, by rw [e, hc], h2⟩
      · rw [if_neg hc] at h2; cases h2
    · cases h2
  | _ => cases h
/-- the class's attribute lies in the instance -/
structure FldC (K : PySem.W.Frag) (c : Nat) (f : Str) : Prop where
  cls : Cls K c
  no : NoAttr K c f
def pFld (c : Nat) (f : Str) (g : PF) : PF := fun ε S => (g ε S).bind (fldOf c f S)
def eFld (c : Nat) (f : Str) (g : ES D) : ES D := fun ε S => (g ε S).bind fun d ε S => R.opt (fldOf c f S d) ε S
section
variable {X : Cx} {C : Cfg} {o e : Expr} {g : PF} {h : ES D} {c : Nat} {f : Str} {pos : Pos}
theorem fld_look {w : Ws} (r : RelC X.K C w) {x d : D} {v : V} (hf : fldOf c f w.S x = some d) (hx : DL.Rep X.K w.ZL w.ρ w.H x v) : ∃ a dx gs u, v = .ref a ∧ w.H a = some (.ins c dx gs) ∧ gs.lookup f = some u ∧ w.Rep X.K d u := by
  obtain ⟨n, fs, ex, hS, hl⟩ := fldOf_some hf
  subst ex
  simp only [DL.Rep] at hx
  obtain ⟨a, ev, ha⟩ := hx
  obtain ⟨dx, gs, e, q⟩ := r.r.sto n _ a hS ha
  obtain ⟨u, k1, k2⟩ := fld_at q hl
  exact ⟨a, dx, gs, u, ev, e, k1, k2⟩
theorem dp_fld (k : FldC X.K c f) (ho : DP X C o g) (hb : attributeBase o f X.env (eval o X.env) = eval o X.env := by rfl) : DP X C (.Attribute o f pos) (pFld c f g) := PE_imp (pe_fld ho hb) fun σ H Q ⟨w, d, e1, e2, rl, hf, gr⟩ => by
  subst e1; subst e2
  obtain ⟨x, h1, h2⟩ := bind_some hf
  refine tP.then rl h1 fun v H' N s r1 n hv => ?_
  obtain ⟨a, dx, gs, u, ev, ea, l, hu⟩ := fld_look (w := w.gr H' N) r1 h2 hv
  exact ⟨a, c, dx, gs, u, ev, ea, k.cls, k.no, l, gr u H' N s r1.sz n (Rep.same (Same.refl _) (fun a z => by rcases z with z | z; exact .inl (.inl z); exact .inr z) hu)⟩
theorem de_fld (k : FldC X.K c f) (ho : DE X C o h) (hb : attributeBase o f X.env (eval o X.env) = eval o X.env := by rfl) : DE X C (.Attribute o f pos) (eFld c f h) := PE_imp (pe_fld ho hb) fun σ H Q ⟨w, e1, e2, rl, q⟩ => by
  refine ⟨w, e1, e2, rl, POST.mono (POST.bind q) fun x w1 s1 m1 r1 ⟨z1, z2, z3, q1⟩ v hv => ?_⟩
  obtain ⟨d, hd, q1⟩ := POST.opt q1
  obtain ⟨a, dx, gs, u, ev, ea, l, hu⟩ := fld_look r1 hd (Rep.same (Same.refl _) (fun _ z => .inl z) hv)
  exact ⟨a, c, dx, gs, u, ev, ea, k.cls, k.no, l, POST.now r1 q1 u hu⟩
end
/-- o.f = d -/
def setFld (c : Nat) (f : Str) (d : D) (S : Sto) : D → Option Sto
  | .ref n => match S[n]? with
    | some (.obj c' fs) => if c' = c ∧ fs.length < 900 then some (S.set n (.obj c (putD f d fs))) else none
    | _ => none
  | _ => none
theorem setFld_some {c : Nat} {f : Str} {S S' : Sto} {x d : D} (h : setFld c f d S x = some S') : ∃ n fs, x = .ref n ∧ S[n]? = some (.obj c fs) ∧ fs.length < 900 ∧ S' = S.set n (.obj c (putD f d fs)) := by
  cases x with
  | ref n =>
    have h : (match S[n]? with
      | some (.obj c' fs) => if c' = c ∧ fs.length < 900 then some (S.set n (.obj c (putD f d fs))) else none
      | _ => none) = some S' := h
    split at h
    · rename_i c' fs e
      by_cases hc : c' = c ∧ fs.length < 900
      · rw [if_pos hc] at h
        cases h
        exact ⟨n, fs, rfl, by rw [e, hc.1], hc.2, rfl⟩
      · rw [if_neg hc] at h; cases h
    · cases h
  | _ => cases h
def SR.opt (o : Option Sto) (ε : EV) : SR := match o with
  | some S => .nx ε S
  | none => .stuck
def sFldS (c : Nat) (f : Str) (fo fv : ES D) : SS := fun ε S => (fv ε S).toS fun d ε S => (fo ε S).toS fun x ε S => SR.opt (setFld c f d S x) ε
section
variable {X : Cx} {C : Cfg} {o e : Expr} {fo fv : ES D} {c : Nat} {f : Str} {pos pos' tpos : Pos}
theorem fld_set {w : Ws} (r : RelC X.K C w) {x d : D} {S' : Sto} {v y : V} (hf : setFld c f d w.S x = some S') (hx : w.Rep X.K x v) (hy : w.Rep X.K d y) : ∃ a dx gs, v = .ref a ∧ w.H a = some (.ins c dx gs) ∧ gs.length < 1000 ∧
    ∃ w' : Ws, w'.ε = w.ε ∧ w'.σ = w.σ ∧ w'.S = S' ∧ w'.H = upd w.H a (.ins c dx (putF f y gs)) ∧ Mono w w' ∧ RelC X.K C w' := by
  obtain ⟨n, fs, ex, hS, hl, eS⟩ := setFld_some hf
  subst ex
  simp only [DL.Rep] at hx
  obtain ⟨a, ev, ha⟩ := hx
  obtain ⟨dx, gs, e, q⟩ := r.r.sto n _ a hS ha
  have hn := fld_len q
  refine ⟨a, dx, gs, ev, e, by omega, ?_⟩
  have so : SzOk (.ins c dx (putF f y gs)) := by
    have := putF_len f y gs
    show (putF f y gs).length ≤ 1000
    omega
  obtain ⟨r2, m2, _⟩ := RelC.alt (l := .sto n) (m' := .obj c (putD f d fs)) r ha hS so ⟨dx, _, rfl, fld_put hy q⟩
  exact ⟨w.alt (.sto n) (.obj c (putD f d fs)) a (.ins c dx (putF f y gs)), rfl, rfl, by rw [eS] <;> rfl, rfl, m2, r2⟩
theorem ds_fld (k : FldC X.K c f) (ho : DE X C o fo) (hv : DE X C e fv) (hs : swapsWith e (some (.Attribute o f pos')) pos.line X.env = pure false := by rfl) : DS X C (.Assign [.Attribute o f pos'] e pos) (sFldS c f fo fv) :=
  PS_imp (ps_fld ho hv hs) fun E σ H ⟨w, e1, e2, rl, q⟩ => by
    subst e1; subst e2
    refine ⟨w, rfl, rfl, rl, POST.mono q.of fun d w1 s1 m1 r1 ⟨z1, z2, z3, q1⟩ y hy => ?_⟩
    refine ⟨w1, s1, rfl, r1, POST.mono q1.of fun x w2 s2 m2 r2 ⟨z4, z5, z6, q2⟩ v hx => ?_⟩
    cases hS : setFld c f d w2.S x with
    | none => rw [hS] at q2; exact q2.elim
    | some S' =>
      rw [hS] at q2
      obtain ⟨a, dx, gs, ev, ea, l, w3, k1, k2, k3, k4, m3, r3⟩ := fld_set r2 hS hx (Rep.mono (m2.le r1.r) d y hy)
      refine ⟨a, c, dx, gs, ev, ea, k.cls, k.no, l, ?_⟩
      have z := POSTS.nx_at q2 m3 r3 k1 k3
      rw [k2, k4, s2, s1] at z
      exact z
/-- o.f op= e, ints -/
def sFldI (c : Nat) (f : Str) (op : Int → Int → Int) (fo fv : ES D) : SS := fun ε S => (fo ε S).toS fun x ε S => match fldOf c f S x with
  | some (.int i) => (fv ε S).toS fun y ε S => match y with
    | .int j => SR.opt (setFld c f (.int (op i j)) S x) ε
    | _ => .stuck
  | _ => .stuck
theorem ds_fldaug {op : Operator} {g : Int → Int → Int} (k : FldC X.K c f) (hop : InOp X op fun x y H Q => ∃ i j, x = .int i ∧ y = .int j ∧ Q (.int (g i j)) H) (ho : DE X C o fo) (hv : DE X C e fv) : DS X C (.AugAssign (.Attribute o f tpos) op e pos) (sFldI c f g fo fv) :=
  PS_imp (ps_fldaug ho hv hop) fun E σ H ⟨w, e1, e2, rl, q⟩ => by
    subst e1; subst e2
    refine ⟨w, rfl, rfl, rl, POST.mono q.of fun x w1 s1 m1 r1 ⟨z1, z2, z3, q1⟩ v hx => ?_⟩
    split at q1
    · rename_i i hi
      obtain ⟨a, dx, gs, u, ev, ea, l, hu⟩ := fld_look r1 hi (Rep.same (Same.refl _) (fun _ z => .inl z) hx)
      have hu := rep_int.mp hu
      refine ⟨a, c, dx, gs, u, ev, ea, k.cls, k.no, l, w1, s1, rfl, r1, POST.mono q1.of fun y w2 s2 m2 r2 ⟨z4, z5, z6, q2⟩ yv hy => ?_⟩
      cases y with
      | int j =>
        have hy := rep_int.mp hy
        cases hS : setFld c f (.int (g i j)) w2.S x with
        | none =>
          dsimp only at q2
          rw [hS] at q2; exact q2.elim
        | some S' =>
          dsimp only at q2
          rw [hS] at q2
          obtain ⟨a', dx', gs', ev', ea', l', w3, k1, k2, k3, k4, m3, r3⟩ := fld_set r2 hS (Rep.mono (m2.le r1.r) x v hx) (rep_int.mpr rfl)
          rw [ev] at ev'
          cases ev'
          refine ⟨i, j, hu, hy, dx', gs', ea', l', ?_⟩
          have z := POSTS.nx_at q2 m3 r3 k1 k3
          rw [k2, k4, s2, s1] at z
          exact z
      | _ => exact q2.elim
    · exact q1.elim
end
/-! ### methods -/
def clsOf (c : Nat) (m : Str) (S : Sto) : D → Bool
  | .ref n => match S[n]? with
    | some (.obj c' fs) => c' = c && (fs.lookup m).isNone
    | _ => false
  | _ => false
theorem clsOf_true {c : Nat} {m : Str} {S : Sto} {x : D} (h : clsOf c m S x = true) : ∃ n fs, x = .ref n ∧ S[n]? = some (.obj c fs) ∧ fs.lookup m = none := by
  cases x with
  | ref n =>
    have h : (match S[n]? with
      | some (.obj c' fs) => c' = c && (fs.lookup m).isNone
      | _ => false) = true := h
    split at h
    · rename_i c' fs e
      simp only [Bool.and_eq_true, decide_eq_true_eq, Option.isNone_iff_eq_none] at h
      exact ⟨n, fs, rfl, by rw [e, h.1], h.2⟩
    · cases h
  | _ => cases h
def callR (F : FS) (ds : List D) (ε : EV) (S : Sto) : R D := match F ds S with
  | .ok d S => .ok d ε S
  | .ex c S => .ex c ε S
  | .stuck => .stuck
def eMeth (c : Nat) (m : Str) (F : FS) (fo : ES D) (fa : ES (List D)) : ES D := fun ε S => (fo ε S).bind fun x ε S => if clsOf c m S x then (fa ε S).bind fun ds ε S => callR F (x :: ds) ε S else .stuck
section
variable {X : Cx} {C : Cfg} {F : FS} {fo : ES D} {fa : ES (List D)} {n : Nat} {k : Nat} {c f : Addr} {fd : FuncData} {ps : List Str} {m : Str} {apos pos : Pos} {o e : Expr} {es : List Expr} {pl : Sem Bool} {ta : TE} {t : TA} {sp : Sp} {E : L2.St → XK}
def tMethA (c : Addr) (m : Str) (sp : Sp) (E : L2.St → XK) (ta : TE) (t : TA) : TE := fun σ H Q => ta σ H fun x H1 => ∃ a dx fs, x = .ref a ∧ H1 a = some (.ins c dx fs) ∧ fs.lookup m = none ∧ t σ H1 fun vs H2 => sp (x :: vs) H2 Q (E σ)
theorem pe_methA (he : PE X o ta) (cl : Cls X.K c) (hm : Meth X.K c m f) (F : FnOk X.prog X.w X.K X.mg X.base (L2.CX X.prog X.w) k f fd ps sp) (hr : Room k X.A) (hb : Binds X.K fd ps []) (hx : ∀ σ, PassesAt (L2.CX X.prog X.w) X σ (E σ)) (ha : PA X (e :: es) t)
    (hst : starEach (e :: es) X.env = (false, eval e X.env) :: starEach es X.env) (hpl : (backTo pos (starEach es X.env)).any (·.1) = false)
    (ht : eval (.Call (.Attribute o m apos) (e :: es) [] pos) X.env = (do
      let it ← eval o X.env
      standAt apos.atName
      let (g, fst) ← holding [it] (getMethod it m pl)
      callWith pos g fst (backTo pos (starEach (e :: es) X.env)) (backToKw pos (keywordEach [] X.env)))) :
    PE X (.Call (.Attribute o m apos) (e :: es) [] pos) (tMethA c m sp E ta t) := ⟨fun pins s σ H Q I h =>
  PySem.W.methodCall_KW (pl := pl) (thn (he.run pins s σ H _ I h) fun u s1 ⟨x, H1, I1, rx, a, dx, fs, ex, ea, l, q⟩ => by
    subst ex
    obtain rfl : u = Value.ref a := rx
    exact getmeth_ok I1 ea cl hm l (PySem.W.callWith_K (first := [.ref a]) (h₀ := X.base) I.ok.mod.kin hm.kp (thn (ha.run pos pins s1 σ H1 _ I1 q) fun us s2 ⟨vs, H2, I2, r, q2⟩ =>
      ⟨I2.kIn, run_fnS (us := .ref a :: us) (vs := .ref a :: vs) F hr hb (hx σ) I2 (.cons rfl r) q2⟩) hst hpl)) ht⟩
theorem pe_methA0 (he : PE X o ta) (cl : Cls X.K c) (hm : Meth X.K c m f) (F : FnOk X.prog X.w X.K X.mg X.base (L2.CX X.prog X.w) k f fd ps sp) (hr : Room k X.A) (hb : Binds X.K fd ps []) (hx : ∀ σ, PassesAt (L2.CX X.prog X.w) X σ (E σ))
    (ht : eval (.Call (.Attribute o m apos) [] [] pos) X.env = (do
      let it ← eval o X.env
      standAt apos.atName
      let (g, fst) ← holding [it] (getMethod it m pl)
      callWith pos g fst (backTo pos (starEach [] X.env)) (backToKw pos (keywordEach [] X.env)))) :
    PE X (.Call (.Attribute o m apos) [] [] pos) (tMethA c m sp E ta tNil) := ⟨fun pins s σ H Q I h =>
  PySem.W.methodCall_KW (pl := pl) (thn (he.run pins s σ H _ I h) fun u s1 ⟨x, H1, I1, rx, a, dx, fs, ex, ea, l, q⟩ => by
    subst ex
    obtain rfl : u = Value.ref a := rx
    exact getmeth_ok I1 ea cl hm l (PySem.W.callWith_K0 (first := [.ref a]) I1.kIn hm.kp (run_fnS (us := [.ref a]) (vs := [.ref a]) F hr hb (hx σ) I1 (.cons rfl .nil) q))) ht⟩
theorem meth_of {w : Ws} (r : RelC X.K C w) {x : D} {v : V} (h : clsOf c m w.S x = true) (hx : w.Rep X.K x v) : ∃ a dx gs, v = .ref a ∧ w.H a = some (.ins c dx gs) ∧ gs.lookup m = none := by
  obtain ⟨n, fs, ex, hS, hl⟩ := clsOf_true h
  subst ex
  simp only [DL.Rep] at hx
  obtain ⟨a, ev, ha⟩ := hx
  obtain ⟨dx, gs, e, q⟩ := r.r.sto n _ a hS ha
  exact ⟨a, dx, gs, ev, e, fld_none q hl⟩
theorem de_meth (tk : Takes X C.W) (cl : Cls X.K c) (hm : Meth X.K c m f) (G : FnOk X.prog X.w X.K X.mg X.base (L2.CX X.prog X.w) k f fd ps (spOf X.K C.exc (n + 1) F)) (hr : Room k X.A) (hb : Binds X.K fd ps []) (ho : DE X C o fo) (ha : DA X C (e :: es) fa)
    (hl : ∀ (ε : EV) (S : Sto) ds ε' S', fa ε S = .ok ds ε' S' → ds.length = n)
    (ht : eval (.Call (.Attribute o m apos) (e :: es) [] pos) X.env = (do
      let it ← eval o X.env
      standAt apos.atName
      let (g, fst) ← holding [it] (getMethod it m pl)
      callWith pos g fst (backTo pos (starEach (e :: es) X.env)) (backToKw pos (keywordEach [] X.env))) := by rfl)
    (hst : starEach (e :: es) X.env = (false, eval e X.env) :: starEach es X.env := by rfl) (hpl : (backTo pos (starEach es X.env)).any (·.1) = false := by rfl) :
    DE X C (.Call (.Attribute o m apos) (e :: es) [] pos) (eMeth c m F fo fa) := PE_imp (pe_methA (E := WE C.W) ho cl hm G hr hb (fun σ => passAt tk σ) ha hst hpl ht) fun σ H Q ⟨w, e1, e2, rl, q⟩ => by
  subst e1; subst e2
  refine ⟨w, rfl, rfl, rl, POST.mono (POST.bind q) fun x w1 s1 m1 r1 ⟨z1, z2, z3, q1⟩ v hx => ?_⟩
  by_cases hc : clsOf c m w1.S x = true
  · rw [if_pos hc] at q1
    obtain ⟨a, dx, gs, ev, ea, l⟩ := meth_of r1 hc hx
    refine ⟨a, dx, gs, ev, ea, l, w1, s1, rfl, r1, ?_⟩
    cases hr : fa w1.ε w1.S with
    | ok ds ε S =>
      rw [hr] at q1
      intro w2 k1 k2 k3 m2 r2 vs hv
      have hn := hl _ _ _ _ _ hr
      have q' : POST X.K C w2 (callR F (x :: ds) w2.ε w2.S) (qE X.K Q) := by
        rw [k1, k2]
        exact POST.lift m2 k3 q1
      have := call_of (vs := v :: vs) (fun _ _ _ _ h => h) r2 (show (x :: ds).length = n + 1 by rw [List.length_cons, hn]) (by
        show DL.Reps X.K w2.Z w2.ρ w2.H (x :: ds) (v :: vs)
        simp only [DL.Reps]
        exact ⟨v, vs, rfl, Rep.mono (m2.le r1.r) x v hx, hv⟩) q'
      rw [k3, s1] at this
      exact this
    | ex c ε S => rw [hr] at q1; exact q1
    | stuck => rw [hr] at q1; exact q1
  · rw [if_neg hc] at q1; exact q1.elim
def eMeth0 (c : Nat) (m : Str) (F : FS) (fo : ES D) : ES D := fun ε S => (fo ε S).bind fun x ε S => if clsOf c m S x then callR F [x] ε S else .stuck
theorem de_meth0 (tk : Takes X C.W) (cl : Cls X.K c) (hm : Meth X.K c m f) (G : FnOk X.prog X.w X.K X.mg X.base (L2.CX X.prog X.w) k f fd ps (spOf X.K C.exc 1 F)) (hr : Room k X.A) (hb : Binds X.K fd ps []) (ho : DE X C o fo)
    (ht : eval (.Call (.Attribute o m apos) [] [] pos) X.env = (do
      let it ← eval o X.env
      standAt apos.atName
      let (g, fst) ← holding [it] (getMethod it m pl)
      callWith pos g fst (backTo pos (starEach [] X.env)) (backToKw pos (keywordEach [] X.env))) := by rfl) :
    DE X C (.Call (.Attribute o m apos) [] [] pos) (eMeth0 c m F fo) := PE_imp (pe_methA0 (E := WE C.W) ho cl hm G hr hb (fun σ => passAt tk σ) ht) fun σ H Q ⟨w, e1, e2, rl, q⟩ => by
  subst e1; subst e2
  refine ⟨w, rfl, rfl, rl, POST.mono (POST.bind q) fun x w1 s1 m1 r1 ⟨z1, z2, z3, q1⟩ v hx => ?_⟩
  by_cases hc : clsOf c m w1.S x = true
  · rw [if_pos hc] at q1
    obtain ⟨a, dx, gs, ev, ea, l⟩ := meth_of r1 hc hx
    refine ⟨a, dx, gs, ev, ea, l, ?_⟩
    have := call_of (vs := [v]) (fun _ _ _ _ h => h) r1 (show [x].length = 1 from rfl) (by
        show DL.Reps X.K w1.Z w1.ρ w1.H [x] [v]
        simp only [DL.Reps]
        exact ⟨v, [], rfl, hx, rfl⟩) q1
    rw [s1] at this
    exact this
  · rw [if_neg hc] at q1; exact q1.elim
/-- C(e, ..) -/
def tMakeA (c : Addr) (sp : Sp) (E : L2.St → XK) (t : TA) : TE := fun σ H Q => t σ H fun vs H1 => ∀ x dx, H1 x = none → H1 dx = none → dx ≠ x →
  sp (.ref x :: vs) (upd (upd H1 dx (.own x)) x (.ins c dx [])) (fun v H2 => v = .non ∧ Q (.ref x) H2) (E σ)
theorem run_makeA {pins : List (Addr × Obj)} {σ : L2.St} {H : Hp} {s : Shared} {Q : VK} {us : List Value} {vs : List V} (M : Mk X.K c f) (G : FnOk X.prog X.w X.K X.mg X.base (L2.CX X.prog X.w) k f fd ps sp) (hr : Room (k + 1) X.A) (hb : Binds X.K fd ps [])
    (hx : PassesAt (L2.CX X.prog X.w) X σ (E σ)) (I : Inv X pins σ H s) (r : Vals vs us)
    (h : ∀ x dx, H x = none → H dx = none → dx ≠ x → sp (.ref x :: vs) (upd (upd H dx (.own x)) x (.ins c dx [])) (fun v H2 => v = .non ∧ Q (.ref x) H2) (E σ)) :
    wpAny (model X.prog X.w) X.A (call (.ref c) us) (EP X pins σ Q) X.xe s := by
  have fr1 := I.hok.fresh (Nat.le_succ s.heap.objs.size)
  have fr2 := I.hok.fresh (Nat.le_refl s.heap.objs.size)
  have goal := h (s.heap.objs.size + 1) s.heap.objs.size fr1 fr2 (Nat.ne_of_lt (Nat.lt_succ_self _))
  have J := Inv.made (C := c) I
  have rr : Vals (V.ref (s.heap.objs.size + 1) :: vs) (Value.ref (s.heap.objs.size + 1) :: us) := .cons rfl r
  have hl : (Value.ref (s.heap.objs.size + 1) :: us).length = ps.length := rr.length.symm.trans (G.len _ _ _ _ goal)
  have bs := hb _ (Value.ref (s.heap.objs.size + 1) :: us) J.kIn (by rw [List.append_nil]; exact hl)
  rw [List.append_nil] at bs
  refine wpAny_call (make_map (f := f) I.kIn M.makes M.init (beq_iff_eq.mp M.fn) (codeAny_mono (G.run _ X.stack _ _ _ _ _ _ (E σ) (hr.make c us []) (J.env0.make c us []) bs rr goal) fun res s' got => ?_))
  cases res with
  | error e => exact hx pins _ _ e s' J got
  | ok fl =>
    cases fl with
    | ret u =>
      obtain ⟨v, H', J2, rv, ev, q3⟩ := J.after got
      subst ev
      exact ⟨rv, .ref (s.heap.objs.size + 1), H', J2, rfl, q3⟩
    | next => exact got.elim
    | brk => exact got.elim
    | cont => exact got.elim
variable {x : Str} {p : Pos}
theorem pe_makeA (M : Mk X.K c f) (G : FnOk X.prog X.w X.K X.mg X.base (L2.CX X.prog X.w) k f fd ps sp) (hr : Room (k + 1) X.A) (hg : Gl X x) (hm : X.mg x = some (.ref c)) (hb : Binds X.K fd ps []) (hx : ∀ σ, PassesAt (L2.CX X.prog X.w) X σ (E σ))
    (ha : PA X (e :: es) t) (hdb : (x == ("__debug__" : Str)) = false) (he : starEach (e :: es) X.env = (false, eval e X.env) :: starEach es X.env) (hpl : (backTo pos (starEach es X.env)).any (·.1) = false) :
    PE X (.Call (.Name x p) (e :: es) [] pos) (tMakeA c sp E t) := ⟨fun pins s σ H Q I h => wpAny_Call_Name_kw (ld_glob I hg hm
  (PySem.W.callWith_K (h₀ := X.base) I.ok.mod.kin M.kp (thn (ha.run pos pins s σ H _ I h) fun us s1 ⟨vs, H1, I1, r, q⟩ => ⟨I1.kIn, run_makeA M G hr hb (hx σ) I1 r q⟩) he hpl) hdb)⟩
def eMake (c : Nat) (F : FS) (fa : ES (List D)) : ES D := fun ε S => (fa ε S).bind fun ds ε S => match F (.ref S.length :: ds) (S ++ [.obj c []]) with
  | .ok .non S' => .ok (.ref S.length) ε S'
  | .ok _ _ => .stuck
  | .ex k S' => .ex k ε S'
  | .stuck => .stuck
theorem lay_lone {w : Ws} {q : Addr} {o : HO} (l : Lone w q) (p : Addr) : Lone (w.lay p o) q := ⟨l.z, l.ρ, l.own⟩
theorem Mono.addS {w0 w : Ws} {p : Addr} {m : MO} (m0 : Mono w0 w) (h0 : w0.H p = none) : Mono w0 (w.addS p m) := by
  refine ⟨m0.z, ?_, m0.keep, m0.zold, m0.own, fun q hq => ?_, m0.dom⟩
  · obtain ⟨k, e⟩ := m0.pre
    exact ⟨k ++ [p], by show w.ρ ++ [p] = _; rw [e, List.append_assoc]⟩
  · rcases List.mem_append.mp hq with h | h
    · exact m0.rho q h
    · rw [List.mem_singleton.mp h]; exact .inr h0
theorem de_make (tk : Takes X C.W) (M : Mk X.K c f) (G : FnOk X.prog X.w X.K X.mg X.base (L2.CX X.prog X.w) k f fd ps (spOf X.K C.exc (n + 1) F)) (hr : Room (k + 1) X.A) (hm : X.mg x = some (.ref c)) (hb : Binds X.K fd ps []) (ha : DA X C (e :: es) fa)
    (hl : ∀ (ε : EV) (S : Sto) ds ε' S', fa ε S = .ok ds ε' S' → ds.length = n) (hg : Gl X x := by rfl) (hdb : (x == ("__debug__" : Str)) = false := by decide) (he : starEach (e :: es) X.env = (false, eval e X.env) :: starEach es X.env := by rfl) (hpl : (backTo pos (starEach es X.env)).any (·.1) = false := by rfl) :
    DE X C (.Call (.Name x p) (e :: es) [] pos) (eMake c F fa) := PE_imp (pe_makeA (E := WE C.W) M G hr hg hm hb (fun σ => passAt tk σ) ha hdb he hpl) fun σ H Q ⟨w, e1, e2, rl, q⟩ => by
  subst e1; subst e2
  refine ⟨w, rfl, rfl, rl, ?_⟩
  unfold eMake at q
  cases hr : fa w.ε w.S with
  | ex j ε S => rw [hr] at q; exact q
  | stuck => rw [hr] at q; exact q
  | ok ds ε S =>
  rw [hr] at q
  have hn := hl _ _ _ _ _ hr
  intro w1 kε kS s1 m1 r1 vs hv y dx hy hd hne
  have q1 : POST X.K C w1 (match F (.ref w1.S.length :: ds) (w1.S ++ [.obj c []]) with
    | .ok .non S' => .ok (.ref w1.S.length) w1.ε S'
    | .ok _ _ => .stuck
    | .ex k S' => .ex k w1.ε S'
    | .stuck => .stuck) (qE X.K Q) := by
    rw [kε, kS]
    exact POST.lift m1 s1 q
  have r2 : RelC X.K C (w1.lay dx (.own y)) := r1.lay hd trivial
  have m2 : Mono w1 (w1.lay dx (.own y)) := Mono.lay hd
  have hy2 : (w1.lay dx (.own y)).H y = none := by
    show upd w1.H dx _ y = none
    rw [upd_ne (Ne.symm hne)]; exact hy
  have r3 : RelC X.K C ((w1.lay dx (.own y)).lay y (.ins c dx [])) := r2.lay hy2 (by show 0 ≤ 1000; decide)
  have m3 : Mono w1 ((w1.lay dx (.own y)).lay y (.ins c dx [])) := m2.trans (Mono.lay hy2)
  have l3 : Lone ((w1.lay dx (.own y)).lay y (.ins c dx [])) y := Lone.of r2 hy2
  have k3 : Ws.MOk ((w1.lay dx (.own y)).lay y (.ins c dx [])) X.K y (.obj c []) := ⟨dx, [], upd_same, rfl⟩
  obtain ⟨r4, m4, le4⟩ := RelC.addS r3 r1 m3 hy l3 k3
  have at4 : (((w1.lay dx (.own y)).lay y (.ins c dx [])).addS y (.obj c [])).ρ[w1.S.length]? = some y := by
    show (w1.ρ ++ [y])[w1.S.length]? = _
    rw [r1.r.slen, List.getElem?_append_right (Nat.le_refl _), Nat.sub_self] <;> rfl
  have m5 : Mono w1 (((w1.lay dx (.own y)).lay y (.ins c dx [])).addS y (.obj c [])) := m4
  have q2 : POST X.K C (((w1.lay dx (.own y)).lay y (.ins c dx [])).addS y (.obj c [])) (callR F (.ref w1.S.length :: ds) w1.ε (w1.S ++ [.obj c []])) (qE X.K fun v H2 => v = .non ∧ Q (.ref y) H2) := by
    unfold callR
    cases hF : F (.ref w1.S.length :: ds) (w1.S ++ [.obj c []]) with
    | ok d S' =>
      rw [hF] at q1
      cases d with
      | non =>
        intro w' k1 k2 k4 m r v hv
        refine ⟨by simpa [DL.Rep] using hv, ?_⟩
        have q3 := POST.at q1 (m5.trans m) r k1 k2 k4
        refine q3 (.ref y) ?_
        simp only [DL.Rep]
        obtain ⟨k, e⟩ := m.pre
        refine ⟨y, rfl, ?_⟩
        rw [e, List.getElem?_append_left (List.getElem?_eq_some_iff.mp at4).1]
        exact at4
      | _ => exact q1.elim
    | ex j S' => rw [hF] at q1; exact POST.lift (α := D) (P := qE X.K fun v H2 => v = .non ∧ Q (.ref y) H2) m5 rfl q1
    | stuck => rw [hF] at q1; exact q1
  have fin := call_of (vs := .ref y :: vs) (fun _ _ _ _ h => h) r4 (show (D.ref w1.S.length :: ds).length = n + 1 by rw [List.length_cons, hn]) (by
      show DL.Reps X.K _ _ _ (.ref w1.S.length :: ds) (.ref y :: vs)
      simp only [DL.Reps]
      exact ⟨.ref y, vs, rfl, by simp only [DL.Rep]; exact ⟨y, rfl, at4⟩, Reps.mono (m5.le r1.r) ds vs hv⟩) q2
  rw [← s1]
  exact fin
end
end DL
namespace DL
open L2 PyProof.Rows PySem PySem.Spec
variable [TabT]
/-! ### the order of data -/
mutual
def enc : D → List Int
  | .int i => [1, i]
  | .str x => 2 :: (x.cps.toList.map (fun c : Nat => (c : Int) + 1) ++ [0])
  | .tup ds => 3 :: encs ds
  | _ => [4]
def encs : List D → List Int
  | [] => [0]
  | d :: ds => enc d ++ encs ds
end
mutual
/-- ints, texts, tuples of such -/
def gd : D → Bool
  | .int _ => true
  | .str _ => true
  | .tup ds => gds ds
  | _ => false
def gds : List D → Bool
  | [] => true
  | d :: ds => gd d && gds ds
end
def dlt (x y : D) : Bool := HT.lexLt (enc x) (enc y)
theorem lex_self : ∀ l : List Int, HT.lexLt l l = false
  | [] => rfl
  | x :: l => by rw [HT.lexLt_cons, if_pos rfl]; exact lex_self l
theorem lex_pre : ∀ (l a b : List Int), HT.lexLt (l ++ a) (l ++ b) = HT.lexLt a b
  | [], _, _ => rfl
  | x :: l, a, b => by
    show HT.lexLt (x :: (l ++ a)) (x :: (l ++ b)) = _
    rw [HT.lexLt_cons, if_pos rfl]; exact lex_pre l a b
/-- codes: unequal ones are told apart before either ends -/
def Apart (a b : List Int) : Prop := ∃ (p : List Int) (x y : Int) (r s : List Int), a = p ++ x :: r ∧ b = p ++ y :: s ∧ x ≠ y
theorem Apart.lex {a b : List Int} (h : Apart a b) (c d : List Int) : HT.lexLt (a ++ c) (b ++ d) = HT.lexLt a b := by
  obtain ⟨p, x, y, r, s, e1, e2, ne⟩ := h
  subst e1; subst e2
  rw [List.append_assoc, List.append_assoc, lex_pre, lex_pre]
  show HT.lexLt (x :: (r ++ c)) (y :: (s ++ d)) = HT.lexLt (x :: r) (y :: s)
  rw [HT.lexLt_cons, HT.lexLt_cons, if_neg ne, if_neg ne]
theorem Apart.pre {a b : List Int} (l : List Int) (h : Apart a b) : Apart (l ++ a) (l ++ b) := by
  obtain ⟨p, x, y, r, s, e1, e2, ne⟩ := h
  exact ⟨l ++ p, x, y, r, s, by rw [e1, List.append_assoc], by rw [e2, List.append_assoc], ne⟩
theorem Apart.post {a b : List Int} (c d : List Int) (h : Apart a b) : Apart (a ++ c) (b ++ d) := by
  obtain ⟨p, x, y, r, s, e1, e2, ne⟩ := h
  exact ⟨p, x, y, r ++ c, s ++ d, by rw [e1, List.append_assoc]; rfl, by rw [e2, List.append_assoc]; rfl, ne⟩
theorem Apart.ne {a b : List Int} (h : Apart a b) : a ≠ b := by
  obtain ⟨p, x, y, r, s, e1, e2, ne⟩ := h
  intro z
  rw [e1, e2] at z
  have := List.append_cancel_left z
  exact ne (List.cons.inj this).1
theorem strs_apart : ∀ (a b : List Nat), a ≠ b → Apart (a.map (fun c : Nat => (c : Int) + 1) ++ [0]) (b.map (fun c : Nat => (c : Int) + 1) ++ [0])
  | [], [], h => absurd rfl h
  | [], c :: b, _ => ⟨[], 0, (c : Int) + 1, [], b.map (fun c : Nat => (c : Int) + 1) ++ [0], rfl, rfl, by omega⟩
  | c :: a, [], _ => ⟨[], (c : Int) + 1, 0, a.map (fun c : Nat => (c : Int) + 1) ++ [0], [], rfl, rfl, by omega⟩
  | c :: a, d :: b, h => by
    by_cases e : c = d
    · subst e
      exact Apart.pre [(c : Int) + 1] (strs_apart a b fun z => h (by rw [z]))
    · exact ⟨[], (c : Int) + 1, (d : Int) + 1, a.map (fun c : Nat => (c : Int) + 1) ++ [0], b.map (fun c : Nat => (c : Int) + 1) ++ [0], rfl, rfl, by omega⟩
theorem strs_lex : ∀ (a b : List Nat), HT.lexLt (a.map (fun c : Nat => (c : Int) + 1) ++ [0]) (b.map (fun c : Nat => (c : Int) + 1) ++ [0]) = decide (a < b)
  | [], [] => by rw [decide_eq_false (by simp)]; rfl
  | [], c :: b => by
    rw [decide_eq_true (by simp)]
    show HT.lexLt (0 :: []) (((c : Int) + 1) :: _) = true
    rw [HT.lexLt_cons, if_neg (by omega)]
    exact decide_eq_true (by omega)
  | c :: a, [] => by
    rw [decide_eq_false (by simp)]
    show HT.lexLt (((c : Int) + 1) :: _) (0 :: []) = false
    rw [HT.lexLt_cons, if_neg (by omega)]
    exact decide_eq_false (by omega)
  | c :: a, d :: b => by
    show HT.lexLt (((c : Int) + 1) :: (a.map (fun c : Nat => (c : Int) + 1) ++ [0])) (((d : Int) + 1) :: (b.map (fun c : Nat => (c : Int) + 1) ++ [0])) = _
    rw [HT.lexLt_cons]
    by_cases e : c = d
    · subst e
      rw [if_pos rfl, strs_lex a b]
      simp
    · rw [if_neg (by omega)]
      have : ((c : Int) + 1 < (d : Int) + 1) ↔ c < d := by omega
      rw [decide_eq_decide, List.cons_lt_cons_iff, this]
      constructor
      · exact .inl
      · rintro (h | ⟨h, _⟩)
        · exact h
        · exact absurd h e
theorem enc_head : ∀ (d : D) (l : List Int), ∃ c t, enc d ++ l = c :: t ∧ 1 ≤ c ∧ (c = 1 ↔ ∃ i, d = .int i) ∧ (c = 2 ↔ ∃ x, d = .str x) ∧ (c = 3 ↔ ∃ ds, d = .tup ds)
  | .int i, l => ⟨1, _, by simp only [enc]; rfl, by omega, by simp, by simp, by simp⟩
  | .str x, l => ⟨2, _, by simp only [enc]; rfl, by omega, by simp, by simp, by simp⟩
  | .tup ds, l => ⟨3, _, by simp only [enc]; rfl, by omega, by simp, by simp, by simp⟩
  | .non, l => ⟨4, l, by simp only [enc]; rfl, by omega, by simp, by simp, by simp⟩
  | .bl _, l => ⟨4, l, by simp only [enc]; rfl, by omega, by simp, by simp, by simp⟩
  | .lst _, l => ⟨4, l, by simp only [enc]; rfl, by omega, by simp, by simp, by simp⟩
  | .dic _ _ _, l => ⟨4, l, by simp only [enc]; rfl, by omega, by simp, by simp, by simp⟩
  | .ref _, l => ⟨4, l, by simp only [enc]; rfl, by omega, by simp, by simp, by simp⟩
mutual
theorem enc_deq : ∀ x y : D, gd x = true → gd y = true → (deq x y = true ∧ x = y) ∨ (deq x y = false ∧ Apart (enc x) (enc y))
  | .int i, .int j, _, _ => by
    by_cases e : i = j
    · subst e; exact .inl ⟨by simp [deq], rfl⟩
    · exact .inr ⟨by simp [deq, e], ⟨[1], i, j, [], [], by simp [enc], by simp [enc], e⟩⟩
  | .str x, .str y, _, _ => by
    by_cases e : x = y
    · subst e; exact .inl ⟨by simp [deq], rfl⟩
    · refine .inr ⟨by simp [deq, e], ?_⟩
      simp only [enc]
      exact Apart.pre [2] (strs_apart _ _ fun z => e (by
        cases x; cases y
        simp only at z
        congr 1
        exact Array.toList_inj.mp z))
  | .tup xs, .tup ys, hx, hy => by
    simp only [gd] at hx hy
    rcases encs_deqs xs ys hx hy with ⟨h1, h2⟩ | ⟨h1, h2⟩
    · subst h2; exact .inl ⟨by simp only [deq]; exact h1, rfl⟩
    · refine .inr ⟨by simp only [deq]; exact h1, ?_⟩
      simp only [enc]
      exact Apart.pre [3] h2
  | .int i, .str y, _, _ => .inr ⟨by simp [deq], ⟨[], 1, 2, [i], _, by simp [enc], by simp only [enc]; rfl, by omega⟩⟩
  | .int i, .tup ys, _, _ => .inr ⟨by simp [deq], ⟨[], 1, 3, [i], _, by simp [enc], by simp only [enc]; rfl, by omega⟩⟩
  | .str x, .int j, _, _ => .inr ⟨by simp [deq], ⟨[], 2, 1, _, [j], by simp only [enc]; rfl, by simp [enc], by omega⟩⟩
  | .str x, .tup ys, _, _ => .inr ⟨by simp [deq], ⟨[], 2, 3, _, _, by simp only [enc]; rfl, by simp only [enc]; rfl, by omega⟩⟩
  | .tup xs, .int j, _, _ => .inr ⟨by simp [deq], ⟨[], 3, 1, _, [j], by simp only [enc]; rfl, by simp [enc], by omega⟩⟩
  | .tup xs, .str y, _, _ => .inr ⟨by simp [deq], ⟨[], 3, 2, _, _, by simp only [enc]; rfl, by simp only [enc]; rfl, by omega⟩⟩
  | .non, _, h, _ => by simp [gd] at h
  | .bl _, _, h, _ => by simp [gd] at h
  | .lst _, _, h, _ => by simp [gd] at h
  | .dic _ _ _, _, h, _ => by simp [gd] at h
  | .ref _, _, h, _ => by simp [gd] at h
  | .int _, .non, _, h => by simp [gd] at h
  | .int _, .bl _, _, h => by simp [gd] at h
  | .int _, .lst _, _, h => by simp [gd] at h
  | .int _, .dic _ _ _, _, h => by simp [gd] at h
  | .int _, .ref _, _, h => by simp [gd] at h
  | .str _, .non, _, h => by simp [gd] at h
  | .str _, .bl _, _, h => by simp [gd] at h
  | .str _, .lst _, _, h => by simp [gd] at h
  | .str _, .dic _ _ _, _, h => by simp [gd] at h
  | .str _, .ref _, _, h => by simp [gd] at h
  | .tup _, .non, _, h => by simp [gd] at h
  | .tup _, .bl _, _, h => by simp [gd] at h
  | .tup _, .lst _, _, h => by simp [gd] at h
  | .tup _, .dic _ _ _, _, h => by simp [gd] at h
  | .tup _, .ref _, _, h => by simp [gd] at h
theorem encs_deqs : ∀ xs ys : List D, gds xs = true → gds ys = true → (deqs xs ys = true ∧ xs = ys) ∨ (deqs xs ys = false ∧ Apart (encs xs) (encs ys))
  | [], [], _, _ => .inl ⟨by simp [deqs], rfl⟩
  | [], y :: ys, _, _ => by
    obtain ⟨c, t, e, h, _⟩ := enc_head y (encs ys)
    exact .inr ⟨by simp [deqs], [], 0, c, [], t, by simp [encs], by simp only [encs]; exact e, by omega⟩
  | x :: xs, [], _, _ => by
    obtain ⟨c, t, e, h, _⟩ := enc_head x (encs xs)
    exact .inr ⟨by simp [deqs], [], c, 0, t, [], by simp only [encs]; exact e, by simp [encs], by omega⟩
  | x :: xs, y :: ys, hx, hy => by
    simp only [gds, Bool.and_eq_true] at hx hy
    simp only [encs, deqs]
    rcases enc_deq x y hx.1 hy.1 with ⟨h1, h2⟩ | ⟨h1, h2⟩
    · subst h2
      rcases encs_deqs xs ys hx.2 hy.2 with ⟨k1, k2⟩ | ⟨k1, k2⟩
      · subst k2; exact .inl ⟨by rw [h1, k1]; rfl, rfl⟩
      · exact .inr ⟨by rw [h1, k1]; rfl, Apart.pre _ k2⟩
    · exact .inr ⟨by rw [h1]; rfl, Apart.post _ _ h2⟩
end
theorem dlt_int (i j : Int) : dlt (.int i) (.int j) = decide (i < j) := by
  unfold dlt
  simp only [enc]
  rw [HT.lexLt_cons, if_pos rfl, HT.lexLt_cons]
  by_cases e : i = j
  · subst e; rw [if_pos rfl, decide_eq_false (by omega)]; rfl
  · rw [if_neg e]
theorem dlt_str (x y : Str) : dlt (.str x) (.str y) = decide (x.cps.toList < y.cps.toList) := by
  unfold dlt
  simp only [enc]
  rw [HT.lexLt_cons, if_pos rfl, strs_lex]
theorem dlt_nil (ys : List D) : HT.lexLt (encs []) (encs ys) = decide (0 < ys.length) := by
  cases ys with
  | nil => simp only [encs]; rw [lex_self]; rfl
  | cons y ys =>
    obtain ⟨c, t, e, h, _⟩ := enc_head y (encs ys)
    simp only [encs]
    rw [e, HT.lexLt_cons, if_neg (by omega), decide_eq_true (by omega), decide_eq_true (by simp)]
theorem dlt_nil2 (x : D) (xs : List D) : HT.lexLt (encs (x :: xs)) (encs []) = false := by
  obtain ⟨c, t, e, h, _⟩ := enc_head x (encs xs)
  simp only [encs]
  rw [e, HT.lexLt_cons, if_neg (by omega)]
  exact decide_eq_false (by omega)
theorem dlt_cons {x y : D} {xs ys : List D} (hx : gd x = true) (hy : gd y = true) : HT.lexLt (encs (x :: xs)) (encs (y :: ys)) = if deq x y = true then HT.lexLt (encs xs) (encs ys) else dlt x y := by
  simp only [encs]
  rcases enc_deq x y hx hy with ⟨h1, h2⟩ | ⟨h1, h2⟩
  · subst h2
    rw [if_pos h1, lex_pre]
  · rw [if_neg (by rw [h1]; simp), h2.lex]; rfl
/-- as the tuples' own test goes -/
theorem lex_at : ∀ (xs ys : List D) (e r : Nat → Bool) (z : Bool) (i : Nat), gds xs = true → gds ys = true → (∀ j x y, xs[j]? = some x → ys[j]? = some y → e (i + j) = deq x y ∧ (deq x y = false → r (i + j) = dlt x y)) → z = decide (xs.length < ys.length) →
    Ob.lexAt e r z i (min xs.length ys.length) = HT.lexLt (encs xs) (encs ys)
  | [], ys, e, r, z, i, _, _, _, hz => by
    rw [List.length_nil, Nat.zero_min, Ob.lexAt_zero, dlt_nil, hz]; rfl
  | x :: xs, [], e, r, z, i, _, _, _, hz => by
    rw [List.length_nil, Nat.min_zero, Ob.lexAt_zero, dlt_nil2, hz, decide_eq_false (by simp)]
  | x :: xs, y :: ys, e, r, z, i, hx, hy, h, hz => by
    simp only [gds, Bool.and_eq_true] at hx hy
    rw [List.length_cons, List.length_cons, Nat.succ_min_succ, Ob.lexAt_succ, dlt_cons hx.1 hy.1]
    have h0 := h 0 x y rfl rfl
    rw [Nat.add_zero] at h0
    rw [h0.1]
    by_cases he : deq x y = true
    · rw [if_pos he, if_pos he]
      refine lex_at xs ys e r z (i + 1) hx.2 hy.2 (fun j a b ha hb => ?_) ?_
      · have := h (j + 1) a b ha hb
        rw [show i + 1 + j = i + (j + 1) by omega]
        exact this
      · rw [hz, List.length_cons, List.length_cons]
        simp
    · rw [if_neg he, if_neg he]
      exact h0.2 (by simpa using he)
mutual
/-- one is told from the other by < -/
def ctab : D → D → Bool
  | .int _, .int _ => true
  | .str _, .str _ => true
  | .tup xs, .tup ys => ctabs xs ys
  | _, _ => false
def ctabs : List D → List D → Bool
  | [], _ => true
  | _ :: _, [] => true
  | x :: xs, y :: ys => (deq x y || ctab x y) && ctabs xs ys
end
theorem ctabs_at : ∀ (xs ys : List D) (j : Nat) (x y : D), ctabs xs ys = true → xs[j]? = some x → ys[j]? = some y → deq x y = false → ctab x y = true
  | [], _, j, x, y, _, e, _, _ => by simp at e
  | _ :: _, [], j, x, y, _, _, e, _ => by simp at e
  | a :: xs, b :: ys, 0, x, y, h, e1, e2, hd => by
    simp only [List.getElem?_cons_zero, Option.some.injEq] at e1 e2
    subst e1; subst e2
    simp only [ctabs, hd, Bool.false_or, Bool.and_eq_true] at h
    exact h.1
  | a :: xs, b :: ys, j + 1, x, y, h, e1, e2, hd => by
    simp only [ctabs, Bool.and_eq_true] at h
    exact ctabs_at xs ys j x y h.2 (by simpa using e1) (by simpa using e2) hd
theorem gds_at : ∀ (xs : List D) (j : Nat) (x : D), gds xs = true → xs[j]? = some x → gd x = true
  | [], j, x, _, e => by simp at e
  | a :: xs, 0, x, h, e => by
    simp only [List.getElem?_cons_zero, Option.some.injEq] at e
    subst e
    simp only [gds, Bool.and_eq_true] at h
    exact h.1
  | a :: xs, j + 1, x, h, e => by
    simp only [gds, Bool.and_eq_true] at h
    exact gds_at xs j x h.2 (by simpa using e)
theorem lays_at (n : Nat) : ∀ (xs : List D) (j : Nat) (x : D), lays n xs = true → xs[j]? = some x → lay n x = true
  | [], j, x, _, e => by simp at e
  | a :: xs, 0, x, h, e => by
    simp only [List.getElem?_cons_zero, Option.some.injEq] at e
    subst e
    simp only [lays, Bool.and_eq_true] at h
    exact h.1
  | a :: xs, j + 1, x, h, e => by
    simp only [lays, Bool.and_eq_true] at h
    exact lays_at n xs j x h.2 (by simpa using e)
theorem readsAll_at {h : Heap} : ∀ {vs : List Value} {xs : List D} {as : List Addr} {j : Nat}, ReadsAll h vs (toPys xs) as → (hj : j < vs.length) → ∃ x bs, xs[j]? = some x ∧ Reads h vs[j] (toPy x) bs
  | [], _, _, j, _, hj => absurd hj (by simp)
  | v :: vs, [], _, j, r, hj => by
    simp only [toPys] at r
    cases r
  | v :: vs, x :: xs, _, j, r, hj => by
    simp only [toPys] at r
    cases r with
    | cons r1 r2 =>
      cases j with
      | zero => exact ⟨x, _, rfl, r1⟩
      | succ j =>
        obtain ⟨y, bs, e, k⟩ := readsAll_at (j := j) r2 (by simpa using hj)
        exact ⟨y, bs, by simpa using e, by simpa using k⟩
theorem readsAll_len {h : Heap} : ∀ {vs : List Value} {xs : List D} {as : List Addr}, ReadsAll h vs (toPys xs) as → vs.length = xs.length
  | [], [], _, _ => rfl
  | [], x :: xs, _, r => by simp only [toPys] at r; cases r
  | v :: vs, [], _, r => by simp only [toPys] at r; cases r
  | v :: vs, x :: xs, _, r => by
    simp only [toPys] at r
    cases r with
    | cons r1 r2 => rw [List.length_cons, List.length_cons, readsAll_len r2]
theorem eq_at {n : Nat} {x y : D} (hx : lay n x = true) (hy : lay n y = true) {A : Around} {s : Shared} {v u : Value} {as bs : List Addr} (r1 : Reads s.heap v (toPy x) as) (r2 : Reads s.heap u (toPy y) bs) (hu : A.units + n < cLine) : SeqAt.EqAt A s v u (deq x y) := by
  have h1 := lay_py n x hx
  have h2 := lay_py n y hy
  have q := SeqAt.eqAt_reads (toPy x) (toPy y) A s v u as bs r1 r2 h1.1 h2.1 (by
    have := Nat.min_le_left (toPy x).depth (toPy y).depth
    omega)
  rw [deq_py n n x y hx hy] at q
  exact q
theorem rc_lt : ∀ (n : Nat) (x y : D), lay n x = true → lay n y = true → gd x = true → gd y = true → ctab x y = true → ∀ (A : Around) (s : Shared) (v u : Value) (as bs : List Addr), Reads s.heap v (toPy x) as → Reads s.heap u (toPy y) bs → A.units + 2 * n + 2 < cLine →
    Ob.RcOp .Lt A s v u (dlt x y) := by
  intro n
  induction n with
  | zero =>
    intro x y lx ly gx gy c A s v u as bs r1 r2 hu
    cases x with
    | int i =>
      cases y with
      | int j =>
        simp only [toPy] at r1 r2
        cases r1; cases r2
        rw [dlt_int]
        exact Ob.RcOp.lt_int i j _ _
      | _ => simp [ctab] at c
    | str i =>
      cases y with
      | str j =>
        simp only [toPy] at r1 r2
        cases r1; cases r2
        rw [dlt_str]
        exact fun prog w E Q h => lt_str h
      | _ => simp [ctab] at c
    | tup xs => simp [lay] at lx
    | _ => simp [gd] at gx
  | succ n ih =>
    intro x y lx ly gx gy c A s v u as bs r1 r2 hu
    cases x with
    | int i =>
      cases y with
      | int j =>
        simp only [toPy] at r1 r2
        cases r1; cases r2
        rw [dlt_int]
        exact Ob.RcOp.lt_int i j _ _
      | _ => simp [ctab] at c
    | str i =>
      cases y with
      | str j =>
        simp only [toPy] at r1 r2
        cases r1; cases r2
        rw [dlt_str]
        exact fun prog w E Q h => lt_str h
      | _ => simp [ctab] at c
    | tup xs =>
      cases y with
      | tup ys =>
        simp only [lay] at lx ly
        simp only [gd] at gx gy
        simp only [ctab] at c
        simp only [toPy] at r1 r2
        cases r1 with
        | tuple a1 a2 a3 a4 =>
          cases r2 with
          | tuple b1 b2 b3 b4 =>
            rename_i p o vs k p2 o2 vs2 k2
            have l1 := readsAll_len a4
            have l2 := readsAll_len b4
            have z1 : vs.size = xs.length := by rw [← l1, Array.length_toList]
            have z2 : vs2.size = ys.length := by rw [← l2, Array.length_toList]
            have key := Ob.RcOp.tuples_lt (A := A) (s := s) (e := fun j => match xs[j]?, ys[j]? with | some a, some b => deq a b | _, _ => false) (r := fun j => match xs[j]?, ys[j]? with | some a, some b => dlt a b | _, _ => false) ⟨_, a1, a2, _, a3⟩ ⟨_, b1, b2, _, b3⟩ (by omega)
              (fun j h1 h2 => by
                obtain ⟨x, cs, e1, k1⟩ := readsAll_at a4 (j := j) (by rw [Array.length_toList]; exact h1)
                obtain ⟨y, ds, e2, k2⟩ := readsAll_at b4 (j := j) (by rw [Array.length_toList]; exact h2)
                rw [Array.getElem_toList] at k1 k2
                simp only [e1, e2]
                exact eq_at (lays_at n xs j x lx e1) (lays_at n ys j y ly e2) k1 k2 (by rw [Around.in1_units]; omega))
              (fun j h1 h2 => by
                obtain ⟨x, cs, e1, k1⟩ := readsAll_at a4 (j := j) (by rw [Array.length_toList]; exact h1)
                obtain ⟨y, ds, e2, k2⟩ := readsAll_at b4 (j := j) (by rw [Array.length_toList]; exact h2)
                rw [Array.getElem_toList] at k1 k2
                simp only [e1, e2]
                intro hd
                exact ih x y (lays_at n xs j x lx e1) (lays_at n ys j y ly e2) (gds_at xs j x gx e1) (gds_at ys j y gy e2) (ctabs_at xs ys j x y c e1 e2 hd) A.in1 s _ _ _ _ k1 k2 (by rw [Around.in1_units]; omega))
            rw [z1, z2, lex_at xs ys _ _ _ 0 gx gy (fun j a b e1 e2 => by simp [e1, e2]) rfl] at key
            have : dlt (.tup xs) (.tup ys) = HT.lexLt (encs xs) (encs ys) := by
              unfold dlt
              simp only [enc]
              rw [HT.lexLt_cons, if_pos rfl]
            rw [this]
            exact key
      | _ => simp [ctab] at c
    | _ => simp [gd] at gx
end DL
namespace DL
open L2 PyProof.Rows PySem PySem.Spec
variable [TabT]
/-! ### sorted, the machine's side -/
mutual
def unPy : PyData → D
  | .int i => .int i
  | .str x => .str x
  | .tuple ds => .tup (unPys ds)
  | _ => .non
def unPys : List PyData → List D
  | [] => []
  | d :: ds => unPy d :: unPys ds
end
mutual
theorem unPy_to : ∀ d : D, gd d = true → unPy (toPy d) = d
  | .int i, _ => by simp [toPy, unPy]
  | .str x, _ => by simp [toPy, unPy]
  | .tup ds, h => by
    simp only [gd] at h
    simp only [toPy, unPy, unPys_to ds h]
  | .non, h => by simp [gd] at h
  | .bl _, h => by simp [gd] at h
  | .lst _, h => by simp [gd] at h
  | .dic _ _ _, h => by simp [gd] at h
  | .ref _, h => by simp [gd] at h
theorem unPys_to : ∀ ds : List D, gds ds = true → unPys (toPys ds) = ds
  | [], _ => by simp [toPys, unPys]
  | d :: ds, h => by
    simp only [gds, Bool.and_eq_true] at h
    simp only [toPys, unPys, unPy_to d h.1, unPys_to ds h.2]
end
/-- the data of a value -/
noncomputable def ad (h : Heap) (v : Value) : D := unPy (SeqAt.readOf h v)
theorem ad_eq {h : Heap} {v : Value} {d : D} {n : Nat} {as : List Addr} (hl : lay n d = true) (hg : gd d = true) (r : Reads h v (toPy d) as) : ad h v = d := by
  unfold ad
  rw [SeqAt.readOf_eq (lay_py n d hl).1 r, unPy_to d hg]
/-- kinds of keys -/
def kn : D → Nat
  | .int _ => 1
  | .str _ => 2
  | .tup _ => 3
  | _ => 0
def hd1 : D → D
  | .tup (x :: _) => x
  | _ => .non
/-- what list.sort takes without a quarrel -/
def sOk (ds : List D) : Bool := lays 16 ds && gds ds && (ds.all fun x => ds.all fun y => ctab x y) &&
  ((ds.all fun x => kn x == 1) || (ds.all fun x => kn x == 2) || ((ds.all fun x => kn x == 3) && ((ds.all fun x => kn (hd1 x) == 1) || (ds.all fun x => kn (hd1 x) == 2) || (ds.all fun x => kn (hd1 x) == 3))) || decide (ds.length < 2))
section
variable {prog : Program} {w : World} {A : Around} {s : Shared}
theorem kat_of {b fin : Bool} {Q : Bool → Shared → Prop} {n : Nat} : ∀ (vs us : List Value) (xs ys : List D) (i : Nat) (as bs : List Addr), ReadsAll s.heap vs (toPys xs) as → ReadsAll s.heap us (toPys ys) bs → lays n xs = true → lays n ys = true → gds xs = true → gds ys = true → ctabs xs ys = true →
    (i = 0 → b = true → ∀ x y, xs[0]? = some x → ys[0]? = some y → (kn x = 1 ∧ kn y = 1) ∨ (kn x = 2 ∧ kn y = 2)) → fin = decide (xs.length < ys.length) → A.units + 2 * n + 4 < cLine → Q (HT.lexLt (encs xs) (encs ys)) s → PySem.W.KatLex prog w A b fin Q (vs.zip us) i s
  | [], us, xs, ys, i, as, bs, r1, r2, l1, l2, g1, g2, c, hb, hf, hu, q => by
    have e := readsAll_len r1
    cases xs with
    | nil =>
      rw [List.zip_nil_left]
      rw [dlt_nil] at q
      rw [List.length_nil] at hf
      refine PySem.W.kat_nil ?_
      rw [hf]; exact q
    | cons x xs => simp at e
  | v :: vs, [], xs, ys, i, as, bs, r1, r2, l1, l2, g1, g2, c, hb, hf, hu, q => by
    have e := readsAll_len r1
    have e2 := readsAll_len r2
    cases xs with
    | nil => simp at e
    | cons x xs =>
      cases ys with
      | cons y ys => simp at e2
      | nil =>
        rw [List.zip_nil_right]
        rw [dlt_nil2] at q
        refine PySem.W.kat_nil ?_
        rw [hf, List.length_nil, decide_eq_false (by simp)]
        exact q
  | v :: vs, u :: us, xs, ys, i, as, bs, r1, r2, l1, l2, g1, g2, c, hb, hf, hu, q => by
    have e := readsAll_len r1
    have e2 := readsAll_len r2
    cases xs with
    | nil => simp at e
    | cons x xs =>
      cases ys with
      | nil => simp at e2
      | cons y ys =>
        simp only [toPys] at r1 r2
        cases r1 with
        | cons a1 a2 =>
          cases r2 with
          | cons b1 b2 =>
            simp only [lays, Bool.and_eq_true] at l1 l2
            simp only [gds, Bool.and_eq_true] at g1 g2
            simp only [ctabs, Bool.and_eq_true] at c
            rw [dlt_cons g1.1 g2.1] at q
            rw [List.zip_cons_cons]
            refine PySem.W.kat_cons (eq_at l1.1 l2.1 a1 b1 (by omega) prog w _ _ ?_)
            refine PySem.W.kat_go (fun h => ?_) (fun h => ?_)
            · rw [if_pos h] at q
              refine PySem.W.kat_yes (kat_of vs us xs ys (i + 1) _ _ a2 b2 l1.2 l2.2 g1.2 g2.2 c.2 (fun z => absurd z (Nat.succ_ne_zero i)) ?_ hu q)
              rw [hf]; simp
            · rw [if_neg (by rw [h]; simp)] at q
              refine PySem.W.kat_no ?_
              by_cases hz : (b && i == 0) = true
              · rw [hz]
                simp only [Bool.and_eq_true, beq_iff_eq] at hz
                rcases hb hz.2 hz.1 x y rfl rfl with ⟨k1, k2⟩ | ⟨k1, k2⟩
                · cases x <;> simp [kn] at k1
                  cases y <;> simp [kn] at k2
                  simp only [toPy] at a1 b1
                  cases a1; cases b1
                  rw [dlt_int] at q
                  exact oneLt_int q
                · cases x <;> simp [kn] at k1
                  cases y <;> simp [kn] at k2
                  simp only [toPy] at a1 b1
                  cases a1; cases b1
                  rw [dlt_str] at q
                  exact oneLt_str q
              · have hz : (b && i == 0) = false := by simpa using hz
                rw [hz]
                refine PySem.W.kat_one _ _ (rc_lt n x y l1.1 l2.1 g1.1 g2.1 (by rw [h] at c; simpa using c.1) A s v u _ _ a1 b1 (by omega) prog w _ _ ?_)
                exact q
theorem reads_ty {h : Heap} {v : Value} {d : D} {as : List Addr} {M : Model} (r : Reads h v (toPy d) as) : (kn d = 1 → PySem.W.Looks M h (typeOf v) (.type "int")) ∧ (kn d = 2 → PySem.W.Looks M h (typeOf v) (.type "str")) ∧ (kn d = 3 → PySem.W.Looks M h (typeOf v) (.type "tuple")) := by
  refine ⟨fun k => ?_, fun k => ?_, fun k => ?_⟩
  · cases d <;> simp [kn] at k
    simp only [toPy] at r
    cases r
    exact PySem.W.Looks.now
  · cases d <;> simp [kn] at k
    simp only [toPy] at r
    cases r
    exact PySem.W.Looks.now
  · cases d <;> simp [kn] at k
    simp only [toPy] at r
    cases r with
    | tuple a1 a2 a3 a4 =>
      rw [← a2]
      exact (PySem.W.Looks.ld a1).andThen .now
theorem readsAll_mem {h : Heap} : ∀ {vs : List Value} {xs : List D} {as : List Addr}, ReadsAll h vs (toPys xs) as → ∀ v ∈ vs, ∃ x ∈ xs, ∃ bs, Reads h v (toPy x) bs
  | vs, xs, as, r, v, hv => by
    obtain ⟨j, hj, e⟩ := List.getElem_of_mem hv
    obtain ⟨x, bs, k1, k2⟩ := readsAll_at r hj
    exact ⟨x, List.mem_of_getElem? k1, bs, by rw [← e]; exact k2⟩
theorem lays_mem {n : Nat} {ds : List D} (h : lays n ds = true) {d : D} (hd : d ∈ ds) : lay n d = true := by
  obtain ⟨j, hj⟩ := List.mem_iff_getElem?.mp hd
  exact lays_at n ds j d h hj
theorem gds_mem {ds : List D} (h : gds ds = true) {d : D} (hd : d ∈ ds) : gd d = true := by
  obtain ⟨j, hj⟩ := List.mem_iff_getElem?.mp hd
  exact gds_at ds j d h hj
theorem tups_of {h : Heap} : ∀ {vs : List Value} {xs : List D} {as : List Addr}, ReadsAll h vs (toPys xs) as → (∀ x ∈ xs, kn x = 3) → (∀ x ∈ xs, kn (hd1 x) ≠ 0) → ∃ fs, PySem.W.KatTups h vs fs ∧ fs.length = vs.length ∧ ∀ f ∈ fs, ∃ x ∈ xs, ∃ bs, Reads h f (toPy (hd1 x)) bs
  | [], _, _, _, _, _ => ⟨[], PySem.W.KatTups.nil, rfl, fun f hf => absurd hf (by simp)⟩
  | v :: vs, [], _, r, _, _ => by simp only [toPys] at r; cases r
  | v :: vs, x :: xs, _, r, k3, k1 => by
    simp only [toPys] at r
    cases r with
    | cons a1 a2 =>
      obtain ⟨fs, t, hl, hf⟩ := tups_of a2 (fun y hy => k3 y (List.mem_cons_of_mem _ hy)) (fun y hy => k1 y (List.mem_cons_of_mem _ hy))
      have kx := k3 x List.mem_cons_self
      have kh := k1 x List.mem_cons_self
      cases x <;> simp [kn] at kx
      rename_i ds
      simp only [toPy] at a1
      cases a1 with
      | tuple b1 b2 b3 b4 =>
        cases ds with
        | nil => simp [hd1, kn] at kh
        | cons y ds =>
          simp only [toPys] at b4
          generalize hq : Array.toList _ = q at b4
          cases b4 with
          | cons c1 c2 =>
            refine ⟨_ :: fs, PySem.W.KatTups.cons b1 b2 b3 (by rw [← Array.getElem?_toList, hq]; rfl) t, by rw [List.length_cons, List.length_cons, hl], fun f hm => ?_⟩
            rcases List.mem_cons.mp hm with e | hm
            · subst e
              exact ⟨.tup (y :: ds), List.mem_cons_self, _, c1⟩
            · obtain ⟨z, hz, k⟩ := hf f hm
              exact ⟨z, List.mem_cons_of_mem _ hz, k⟩
theorem sortable_of {a : Addr} {vs : List Value} {ds : List D} {as : List Addr} {h0 : Heap} (r : ReadsAll h0 vs (toPys ds) as) (ok : sOk ds = true) (h2 : 2 ≤ vs.length) (hu : A.units + 60 < cLine) (keep : ∀ h' : Heap, (∀ b o, b ≠ a → s.heap.get? b = some o → h'.get? b = some o) → ∀ b o, h0.get? b = some o → h'.get? b = some o) :
    SrtO.SortableO prog w A s a vs fun v u => HT.lexLt (enc (ad h0 v)) (enc (ad h0 u)) := by
  intro h' kp
  have hk := keep h' kp
  have r' : ReadsAll h' vs (toPys ds) as := ReadsAll.keeps hk r
  simp only [sOk, Bool.and_eq_true, Bool.or_eq_true, List.all_eq_true, beq_iff_eq, decide_eq_true_eq] at ok
  obtain ⟨⟨⟨hl, hg⟩, hc⟩, hkind⟩ := ok
  have hlen := readsAll_len r
  have pt : ∀ v ∈ vs, ∃ x ∈ ds, ad h0 v = x ∧ lay 16 x = true ∧ gd x = true ∧ ∃ bs, Reads h' v (toPy x) bs := fun v hv => by
    obtain ⟨x, hx, bs, k⟩ := readsAll_mem r v hv
    have l1 := lays_mem hl hx
    have g1 := gds_mem hg hx
    exact ⟨x, hx, ad_eq l1 g1 k, l1, g1, bs, Reads.keeps hk k⟩
  have simple : ∀ m, (m = 1 ∧ (∀ x ∈ ds, kn x = 1)) ∨ (m = 2 ∧ (∀ x ∈ ds, kn x = 2)) → ∃ κ, (∀ (Q : SortKind → Shared → Prop) (E : Value → Shared → Prop), Q κ { s with heap := h' } → wpAny (model prog w) A (keyKind' vs.toArray) Q E { s with heap := h' }) ∧
      SrtO.Cmp prog w A { s with heap := h' } κ (fun p => p.1 ∈ vs) (SrtO.lt2 fun v u => HT.lexLt (enc (ad h0 v)) (enc (ad h0 u))) := fun m hm => by
    refine ⟨oneType', fun Q E hq => ?_, fun p q hp hq => ?_⟩
    · rcases hm with ⟨_, hm⟩ | ⟨_, hm⟩
      · refine PySem.W.kas_kind (T := .type "int") h2 (fun v hv => ?_) (by decide +kernel) (by rfl) hq
        obtain ⟨x, hx, _, _, _, bs, k⟩ := pt v hv
        exact (reads_ty k).1 (hm x hx)
      · refine PySem.W.kas_kind (T := .type "str") h2 (fun v hv => ?_) (by decide +kernel) (by rfl) hq
        obtain ⟨x, hx, _, _, _, bs, k⟩ := pt v hv
        exact (reads_ty k).2.1 (hm x hx)
    · obtain ⟨x, hx, ex, lx, gx, bs, kx⟩ := pt p.1 hp
      obtain ⟨y, hy, ey, ly, gy, cs, ky⟩ := pt q.1 hq
      show wpAny (model prog w) A (keyLt' oneType' p.1 q.1) (fun r s' => s' = { s with heap := h' } ∧ r = HT.lexLt (enc (ad h0 p.1)) (enc (ad h0 q.1))) (fun _ _ => False) { s with heap := h' }
      rw [ex, ey, keyLt'_oneType]
      generalize p.1 = v at kx
      generalize q.1 = u at ky
      have goal : ∀ b, b = dlt x y → ({ s with heap := h' } : Shared) = { s with heap := h' } ∧ b = HT.lexLt (enc x) (enc y) := fun b e => ⟨rfl, e⟩
      rcases hm with ⟨_, hm⟩ | ⟨_, hm⟩
      · have k1 := hm x hx
        have k2 := hm y hy
        cases x <;> simp [kn] at k1
        cases y <;> simp [kn] at k2
        simp only [toPy] at kx ky
        cases kx; cases ky
        exact oneLt_int (goal _ (dlt_int _ _).symm)
      · have k1 := hm x hx
        have k2 := hm y hy
        cases x <;> simp [kn] at k1
        cases y <;> simp [kn] at k2
        simp only [toPy] at kx ky
        cases kx; cases ky
        exact oneLt_str (goal _ (dlt_str _ _).symm)
  have tuples : (∀ x ∈ ds, kn x = 3) → ∀ m T, (m = 1 ∧ T = "int" ∨ m = 2 ∧ T = "str" ∨ m = 3 ∧ T = "tuple") → (∀ x ∈ ds, kn (hd1 x) = m) → ∃ κ, (∀ (Q : SortKind → Shared → Prop) (E : Value → Shared → Prop), Q κ { s with heap := h' } → wpAny (model prog w) A (keyKind' vs.toArray) Q E { s with heap := h' }) ∧
      SrtO.Cmp prog w A { s with heap := h' } κ (fun p => p.1 ∈ vs) (SrtO.lt2 fun v u => HT.lexLt (enc (ad h0 v)) (enc (ad h0 u))) := fun k3 m T hm hh => by
    have m0 : m ≠ 0 := by rcases hm with ⟨e, _⟩ | ⟨e, _⟩ | ⟨e, _⟩ <;> omega
    obtain ⟨fs, t, fl, ft⟩ := tups_of r' k3 (fun x hx => by rw [hh x hx]; exact m0)
    refine ⟨tuples' (Value.type T != Value.type "tuple"), fun Q E hq => ?_, fun p q hp hq => ?_⟩
    · refine PySem.W.kat_kind (T := .type T) t (by omega) (fun f hf => ?_) (by rcases hm with ⟨_, e⟩ | ⟨_, e⟩ | ⟨_, e⟩ <;> subst e <;> rfl) hq
      obtain ⟨x, hx, bs, k⟩ := ft f hf
      have kx := hh x hx
      rcases hm with ⟨e, e'⟩ | ⟨e, e'⟩ | ⟨e, e'⟩
      · subst e; subst e'; exact (reads_ty k).1 kx
      · subst e; subst e'; exact (reads_ty k).2.1 kx
      · subst e; subst e'; exact (reads_ty k).2.2 kx
    · obtain ⟨x, hx, ex, lx, gx, bs, kx⟩ := pt p.1 hp
      obtain ⟨y, hy, ey, ly, gy, cs, ky⟩ := pt q.1 hq
      show wpAny (model prog w) A (keyLt' (tuples' (Value.type T != Value.type "tuple")) p.1 q.1) (fun r s' => s' = { s with heap := h' } ∧ r = HT.lexLt (enc (ad h0 p.1)) (enc (ad h0 q.1))) (fun _ _ => False) { s with heap := h' }
      have cxy := hc x hx y hy
      have hhx := hh x hx
      have hhy := hh y hy
      rw [ex, ey]
      generalize p.1 = v at kx
      generalize q.1 = u at ky
      have k1 := k3 x hx
      have k2 := k3 y hy
      cases x <;> simp [kn] at k1
      cases y <;> simp [kn] at k2
      rename_i xs ys
      simp only [toPy] at kx ky
      simp only [lay] at lx ly
      simp only [gd] at gx gy
      simp only [ctab] at cxy
      cases kx with
      | tuple a1 a2 a3 a4 =>
        cases ky with
        | tuple b1 b2 b3 b4 =>
          have z1 := readsAll_len a4
          have z2 := readsAll_len b4
          rw [Array.length_toList] at z1 z2
          refine PySem.W.kat_lt a1 a3 b1 b3 (kat_of (n := 15) _ _ xs ys 0 _ _ a4 b4 lx ly gx gy cxy (fun _ hb x y e1 e2 => ?_) (by rw [z1, z2]) (by omega) ⟨rfl, ?_⟩)
          · have tn : m ≠ 3 := by
              rcases hm with ⟨e, e'⟩ | ⟨e, e'⟩ | ⟨e, e'⟩
              · omega
              · omega
              · subst e'; exact absurd hb (by decide +kernel)
            cases xs with
            | nil => simp at e1
            | cons x' xs =>
              cases ys with
              | nil => simp at e2
              | cons y' ys =>
                simp only [List.getElem?_cons_zero, Option.some.injEq] at e1 e2
                subst e1; subst e2
                simp only [hd1] at hhx hhy
                rw [hhx, hhy]
                rcases hm with ⟨e, _⟩ | ⟨e, _⟩ | ⟨e, _⟩ <;> omega
          · simp only [enc]
            rw [HT.lexLt_cons, if_pos rfl]
  rcases hkind with ((hk1 | hk2) | ⟨hk3, (ha | hb) | hb3⟩) | hlt
  · exact simple 1 (.inl ⟨rfl, hk1⟩)
  · exact simple 2 (.inr ⟨rfl, hk2⟩)
  · exact tuples hk3 1 "int" (.inl ⟨rfl, rfl⟩) ha
  · exact tuples hk3 2 "str" (.inr (.inl ⟨rfl, rfl⟩)) hb
  · exact tuples hk3 3 "tuple" (.inr (.inr ⟨rfl, rfl⟩)) hb3
  · omega
end
/-! ### what sorted gives -/
def insD (x : D) : List D → List D
  | [] => [x]
  | y :: ys => if dlt y x then y :: insD x ys else x :: y :: ys
def dSort : List D → List D
  | [] => []
  | x :: xs => insD x (dSort xs)
theorem insD_perm (x : D) : ∀ l, (insD x l).Perm (x :: l)
  | [] => List.Perm.refl _
  | y :: ys => by
    unfold insD
    by_cases h : dlt y x = true
    · rw [if_pos h]
      exact ((insD_perm x ys).cons y).trans (List.Perm.swap x y ys)
    · rw [if_neg h]
theorem dSort_perm : ∀ l, (dSort l).Perm l
  | [] => List.Perm.refl _
  | x :: xs => (insD_perm x _).trans ((dSort_perm xs).cons x)
theorem swo_d : SrtO.Swo dlt := NtL.swo_lexL enc
theorem insD_srtd (x : D) : ∀ l, SrtO.Srtd dlt l → SrtO.Srtd dlt (insD x l)
  | [], _ => List.pairwise_singleton _ _
  | y :: ys, h => by
    unfold insD
    have h1 := List.pairwise_cons.mp h
    by_cases e : dlt y x = true
    · rw [if_pos e]
      refine List.pairwise_cons.mpr ⟨fun z hz => ?_, insD_srtd x ys h1.2⟩
      rcases List.mem_cons.mp ((insD_perm x ys).mem_iff.mp hz) with k | k
      · subst k; exact swo_d.asym y z e
      · exact h1.1 z k
    · rw [if_neg e]
      have e : dlt y x = false := by simpa using e
      refine List.pairwise_cons.mpr ⟨fun z hz => ?_, h⟩
      rcases List.mem_cons.mp hz with k | k
      · subst k; exact e
      · exact swo_d.tr x y z e (h1.1 z k)
theorem dSort_srtd : ∀ l, SrtO.Srtd dlt (dSort l)
  | [] => List.Pairwise.nil
  | x :: xs => insD_srtd x _ (dSort_srtd xs)
theorem dlt_anti {x y : D} (hx : gd x = true) (hy : gd y = true) (h1 : dlt x y = false) (h2 : dlt y x = false) : x = y := by
  rcases enc_deq x y hx hy with ⟨_, e⟩ | ⟨_, p, a, b, r, s, e1, e2, ne⟩
  · exact e
  · exfalso
    unfold dlt at h1 h2
    rw [e1, e2, lex_pre, HT.lexLt_cons, if_neg ne] at h1
    rw [e1, e2, lex_pre, HT.lexLt_cons, if_neg (Ne.symm ne)] at h2
    have k1 := of_decide_eq_false h1
    have k2 := of_decide_eq_false h2
    omega
theorem dSort_uniq {l m : List D} (hg : gds m = true) (p : l.Perm m) (s : SrtO.Srtd dlt l) : l = dSort m := by
  have p2 := p.trans (dSort_perm m).symm
  refine List.Perm.eq_of_pairwise (le := fun a b => dlt b a = false) (fun a b ha hb h1 h2 => ?_) s (dSort_srtd m) p2
  exact dlt_anti (gds_mem hg (p.mem_iff.mp ha)) (gds_mem hg ((dSort_perm m).mem_iff.mp hb)) h2 h1
end DL
namespace DL
open L2 PyProof.Rows PySem PySem.Spec
variable [TabT]
/-! ### sorted(xs) -/
section
variable {prog : Program} {w : World} {A : Around} {E : Value → Shared → Prop} {s : Shared}
theorem collect_tupD {t : Addr} {us : List Value} {Q : List Value → Shared → Prop} (ht : s.heap.IsTuple t us.toArray) (hz : us.length ≤ sizeLine)
    (q : Q us { s with heap := (s.heap.push (seqObj "list" #[] 0)).update s.heap.objs.size (Obj.mapSeq (· ++ us.toArray)) }) : wpAny (model prog w) A (collect (.ref t)) Q E s := by
  obtain ⟨o, go, tc, k, dt⟩ := id ht
  unfold collect
  refine wpAny_bind (wpAny_runValue (codeAny_builtin entry_proto_collect' ?_))
  show wpAny _ _ (do
    again (.builtin "list.__iadd__" ⟨[← newList [], .ref t], []⟩)) _ _ s
  refine wpAny_bind (wpAny_newList (wpAny_pure ⟨Code.quiet_builtin _ (by decide +kernel),
    codeAny_builtin entry_list_iadd' ?_⟩))
  show wpAny _ _ (Builtin.List.listExtendWith (.ref s.heap.objs.size) (.ref t) (.ref s.heap.objs.size)) _ _ { s with heap := s.heap.push (seqObj "list" #[] 0) }
  unfold Builtin.List.listExtendWith
  have go2 : (s.heap.push (seqObj "list" #[] 0)).get? t = some o := Heap.get?_push_of_some _ go
  refine wpAny_bind (wpAny_typeOf (T := "tuple") ⟨o, go2, tc⟩ ?_)
  rw [if_pos (by simp)]
  refine wpAny_bind (listItems_at go2 dt ?_)
  refine wpAny_bind (listItems_at (xs := #[]) (n := 0) (Heap.get?_push_size _ rfl)
    rfl ?_)
  rw [if_neg (by simp)]
  refine wpAny_bind (listUpdate_at (xs := #[]) (n := 0) (Heap.get?_push_size _ rfl) rfl ?_ (Nat.zero_le _) (by
    show (#[] ++ us.toArray).size ≤ sizeLine + 1
    simp only [Array.size_append, List.size_toArray, List.length_nil]
    omega))
  refine wpAny_pure ?_
  show wpAny (model prog w) A (do
      let ob ← load s.heap.objs.size
      match ob.data with
      | .seq zs _ => pure zs.toList
      | _ => unsupported "internal:collect") Q E { s with heap := (s.heap.push (seqObj "list" #[] 0)).update s.heap.objs.size (Obj.mapSeq (· ++ us.toArray)) }
  refine wpAny_bind (wpAny_load (get?_update_seq (Heap.get?_push_size _ rfl) _) ?_)
  show wpAny _ _ (pure ((#[] : Array Value) ++ us.toArray).toList) Q E _
  rw [show ((#[] : Array Value) ++ us.toArray).toList = us by simp]
  exact wpAny_pure q
/-- sorted(t) of a tuple -/
theorem sorted_tupD {t : Addr} {us : List Value} {ltv : Value → Value → Bool} {Q : Value → Shared → Prop} (O : SrtO.Swo ltv) (ht : s.heap.IsTuple t us.toArray) (hz : us.length ≤ sizeLine)
    (hS : 2 ≤ us.length → ∀ (h1 : Heap) (a : Addr), h1.get? a = some (seqObj "list" us.toArray 0) → (∀ b o, s.heap.get? b = some o → b ≠ a ∧ h1.get? b = some o) → SrtO.SortableO prog w A.in1.in1 { s with heap := h1 } a us ltv)
    (q : ∀ out : List Value, SrtO.Srtd ltv out → SrtO.Stb ltv out us → Q (.ref (s.heap.objs.size + 1)) { s with heap := sortedAll s.heap us out.toArray }) :
    wpAny (model prog w) A (call (.builtin "sorted") [.ref t]) Q E s := by
  refine Calls.call_function_entry kind_sorted plain_sorted entry_sorted (args_sorted1 _) ?_
  unfold Builtin.«sorted»
  refine wpAny_bind (m := checkCount "sorted" 1 1 _) (wpAny_pure ?_)
  refine wpAny_bind (collect_tupD ht hz ?_)
  refine wpAny_bind (wpAny_newList ?_ hz)
  have e1 : ((s.heap.push (seqObj "list" #[] 0)).update s.heap.objs.size (Obj.mapSeq (· ++ us.toArray))).objs.size = s.heap.objs.size + 1 := by rw [Heap.size_update, size_push']
  have here : (((s.heap.push (seqObj "list" #[] 0)).update s.heap.objs.size (Obj.mapSeq (· ++ us.toArray))).push (seqObj "list" us.toArray 0)).get? (s.heap.objs.size + 1) = some (seqObj "list" us.toArray 0) := by
    rw [← e1]
    exact Heap.get?_push_size _ rfl
  have old : ∀ b o, s.heap.get? b = some o → b ≠ s.heap.objs.size + 1 ∧ (((s.heap.push (seqObj "list" #[] 0)).update s.heap.objs.size (Obj.mapSeq (· ++ us.toArray))).push (seqObj "list" us.toArray 0)).get? b = some o := fun b o g => by
    have lt := Heap.lt_size g
    refine ⟨Nat.ne_of_lt (Nat.lt_succ_of_lt lt), Heap.get?_push_of_some _ ?_⟩
    rw [Heap.get?_update_ne _ _ _ _ (Nat.ne_of_lt lt)]
    exact Heap.get?_push_of_some _ g
  show wpAny _ _ _ _ _ { s with heap := ((s.heap.push (seqObj "list" #[] 0)).update s.heap.objs.size (Obj.mapSeq (· ++ us.toArray))).push (seqObj "list" us.toArray 0) }
  rw [e1]
  refine wpAny_bind (wpAny_holding (wpAny_call_entry slot_list_sort ⟨_, here, rfl⟩ entry_list_sort
    (SrtO.list_sort_ord O here hz (fun h2 => hS h2 _ _ here old) fun out hs hb => ⟨_, rfl, ?_⟩) (args_list_sort _)))
  exact wpAny_pure ⟨_, rfl, q out hs hb⟩
end
/-- the value of one -/
def backD : Value → V
  | .ref a => .ref a
  | .int i _ => .int i
  | .str x _ => .str x
  | _ => .non
theorem backD_rel {h : Heap} {d : D} {v : Value} {x : V} {as : List Addr} (hg : gd d = true) (r : Reads h v (toPy d) as) (rv : RelV x v) : backD v = x := by
  cases d <;> simp [gd] at hg
  all_goals
    simp only [toPy] at r
    cases r
    cases x <;> first
      | exact False.elim rv
      | (obtain ⟨t, e⟩ := rv; cases e; rfl)
      | (obtain ⟨t, e⟩ := rv; cases e; done)
      | (cases rv; rfl)
      | (cases rv; done)
      | (have rv := rv.1; cases rv; done)
def rSortD (K : PySem.W.Frag) : List V → Hp → VK → Prop := fun us H Q => ∃ (a : Addr) (ds : List D) (xs : List V) (Z : Addr → Prop) (ρ : List Addr), us = [.ref a] ∧ (SqL K H a xs ∨ SqT K H a xs) ∧ Reps K Z ρ H ds xs ∧ sOk ds = true ∧
  ∀ ys p, H p = none → Reps K Z ρ H (dSort ds) ys → ys.length = xs.length → Q (.ref p) (upd H p (.lst ys))
section
variable {X : Cx}
theorem reps_all {K : PySem.W.Frag} {Z : Addr → Prop} {ρ : List Addr} {H : Hp} : ∀ {ds : List D} {vs : List V}, (∀ (j : Nat) d v, ds[j]? = some d → vs[j]? = some v → Rep K Z ρ H d v) → vs.length = ds.length → Reps K Z ρ H ds vs
  | [], [], _, _ => by simp [DL.Reps]
  | [], v :: vs, _, e => by simp at e
  | d :: ds, [], _, e => by simp at e
  | d :: ds, v :: vs, h, e => by
    simp only [DL.Reps]
    exact ⟨v, vs, rfl, h 0 d v rfl rfl, reps_all (fun j a b ha hb => h (j + 1) a b (by simpa using ha) (by simpa using hb)) (by simpa using e)⟩
theorem call_sortD (hu : X.A.units + 64 < cLine) : CallR X (.builtin "sorted") (rSortD X.K) := by
  intro pins s σ H us vals Q I r h
  obtain ⟨a, ds, xs, Z, ρ, rfl, hq, hr, ok, q⟩ := h
  rw [Vals.ref1 r]
  have ok' := ok
  simp only [sOk, Bool.and_eq_true] at ok'
  obtain ⟨⟨⟨hl, hg⟩, _⟩, _⟩ := ok'
  have main : ∀ its : List Value, Vals xs its → (∀ b o, s.heap.get? b = some o → True) → xs.length ≤ sizeLine →
      (2 ≤ its.length → ∀ (h1 : Heap) (a : Addr), h1.get? a = some (seqObj "list" its.toArray 0) → (∀ b o, s.heap.get? b = some o → b ≠ a ∧ h1.get? b = some o) → SrtO.SortableO X.prog X.w X.A.in1.in1 { s with heap := h1 } a its fun v u => HT.lexLt (enc (ad s.heap v)) (enc (ad s.heap u))) ∧
      ∀ out : List Value, SrtO.Srtd (fun v u => HT.lexLt (enc (ad s.heap v)) (enc (ad s.heap u))) out → SrtO.Stb (fun v u => HT.lexLt (enc (ad s.heap v)) (enc (ad s.heap u))) out its → EP X pins σ Q (.ref (s.heap.objs.size + 1)) { s with heap := sortedAll s.heap its out.toArray } := by
    intro its rv _ hz
    obtain ⟨as, ra⟩ := Dp.readsAll I (toPys ds) xs its (Reps.dp 16 ds xs hl hr) rv
    refine ⟨fun h2 h1 a _ old => sortable_of ra ok h2 (by simp only [Around.in1_units]; omega) fun h' kp b o g => kp b o (old b o g).1 (old b o g).2, fun out hs hb => ?_⟩
    have pt : ∀ v ∈ its, ∃ x ∈ ds, ∃ y, ad s.heap v = x ∧ backD v = y ∧ Rep X.K Z ρ H x y ∧ RelV y v := fun v hv => by
      obtain ⟨j, hj, e⟩ := List.getElem_of_mem hv
      obtain ⟨x, bs, k1, k2⟩ := readsAll_at ra hj
      rw [e] at k2
      have hx := List.mem_of_getElem? k1
      obtain ⟨y, hy, ry⟩ := Reps.get hr k1
      obtain ⟨u, hu, ru⟩ := rv.get hy
      rw [List.getElem?_eq_getElem hj, e] at hu
      cases hu
      exact ⟨x, hx, y, ad_eq (lays_mem hl hx) (gds_mem hg hx) k2, backD_rel (gds_mem hg hx) k2 ru, ry, ru⟩
    have em : its.map (ad s.heap) = ds := by
      refine List.ext_getElem? fun j => ?_
      rw [List.getElem?_map]
      by_cases hj : j < its.length
      · obtain ⟨x, bs, k1, k2⟩ := readsAll_at ra hj
        have hx := List.mem_of_getElem? k1
        rw [List.getElem?_eq_getElem hj, k1]
        show some (ad s.heap its[j]) = some x
        rw [ad_eq (lays_mem hl hx) (gds_mem hg hx) k2]
      · have hl2 := readsAll_len ra
        rw [List.getElem?_eq_none (by omega), List.getElem?_eq_none (by omega)] <;> rfl
    have eo : out.map (ad s.heap) = dSort ds := by
      refine dSort_uniq hg ?_ (List.pairwise_map.mpr hs)
      rw [← em]
      exact hb.perm.map _
    have vo : Vals (out.map backD) out := by
      have : ∀ l : List Value, (∀ v ∈ l, v ∈ its) → Vals (l.map backD) l := fun l => by
        induction l with
        | nil => exact fun _ => .nil
        | cons v l ih =>
          intro hl
          obtain ⟨x, _, y, _, e2, _, ry⟩ := pt v (hl v List.mem_cons_self)
          exact .cons (by rw [e2]; exact ry) (ih fun u hu => hl u (List.mem_cons_of_mem _ hu))
      exact this out fun v hv => hb.perm.mem_iff.mp hv
    have ro : Reps X.K Z ρ H (dSort ds) (out.map backD) := by
      refine reps_all (fun j d v hd hv => ?_) (by rw [← eo, List.length_map, List.length_map])
      rw [← eo, List.getElem?_map] at hd
      rw [List.getElem?_map] at hv
      cases ho : out[j]? with
      | none => rw [ho] at hd; cases hd
      | some u =>
        rw [ho] at hd hv
        cases hd; cases hv
        obtain ⟨x, _, y, e1, e2, ry, _⟩ := pt u (hb.perm.mem_iff.mp (List.mem_of_getElem? ho))
        rw [e1, e2]; exact ry
    have lo : (out.map backD).length = xs.length := by
      rw [List.length_map, hb.perm.length_eq, rv.length]
    obtain ⟨ep, he'⟩ := sortedAll_at s.heap its out.toArray
    have fr := I.hok.fresh (Nat.le_succ s.heap.objs.size)
    exact ⟨.ref _, upd H (s.heap.objs.size + 1) (.lst (out.map backD)), I.laid (t' := s.toks) (fun _ _ => sortedAll_old) (Nat.le_succ _) ⟨by rw [lo]; exact hz, out, ep, vo, he'⟩, rfl, q _ _ fr ro lo⟩
  rcases hq with hq | hq
  · obtain ⟨its, rv, pl, hz⟩ := I.list hq
    obtain ⟨m1, m2⟩ := main its rv (fun _ _ _ => trivial) hz
    exact SrtO.sorted_ord (NtL.swo_lexL fun v => enc (ad s.heap v)) pl.isList (by rw [← rv.length]; exact hz) m1 m2
  · obtain ⟨its, rv, pl, hz⟩ := I.tuple hq
    obtain ⟨m1, m2⟩ := main its rv (fun _ _ _ => trivial) hz
    exact sorted_tupD (NtL.swo_lexL fun v => enc (ad s.heap v)) pl (by rw [← rv.length]; exact hz) m1 m2
end
def dSorted : List D → Option D
  | [.lst ds] => if sOk ds then some (.lst (dSort ds)) else none
  | [.tup ds] => if sOk ds then some (.lst (dSort ds)) else none
  | _ => none
theorem ok_sorted {K : PySem.W.Frag} : CallG K (rSortD K) dSorted := fun Z ρ H xs ds d Q sz hx hd gr => by
  unfold dSorted at hd
  split at hd
  · rename_i ys
    split at hd
    · rename_i hs
      cases hd
      obtain ⟨v, e, h1⟩ := reps1 hx
      obtain ⟨a, vs, ev, k1, k2⟩ := rep_lst.mp h1
      subst e; subst ev
      refine ⟨a, ys, vs, Z, ρ, rfl, .inl k1.sq, k2, hs, fun zs p hp hz hl => gr.lst sz hz (by rw [hl]; exact fzL_len sz k1) hp⟩
    · cases hd
  · rename_i ys
    split at hd
    · rename_i hs
      cases hd
      obtain ⟨v, e, h1⟩ := reps1 hx
      obtain ⟨a, vs, ev, k1, k2⟩ := rep_tup.mp h1
      subst e; subst ev
      refine ⟨a, ys, vs, Z, ρ, rfl, .inr k1.sq, k2, hs, fun zs p hp hz hl => gr.lst sz hz (by rw [hl]; exact tpT_len sz k1) hp⟩
    · cases hd
  · cases hd
end DL
namespace DL
open L2 PyProof.Rows PySem PySem.Spec
variable [TabT]
/-! ### f(), raise X(), continue -/
section
variable {X : Cx} {C : Cfg} {F : FS} {n : Nat} {k : Nat} {f : Addr} {fd : FuncData} {ps : List Str} {x : Str} {p pos : Pos} {sp : Sp} {E : L2.St → XK}
def eCall0 (F : FS) : ES D := fun ε S => callR F [] ε S
theorem pe_callA0 (G : FnOk X.prog X.w X.K X.mg X.base (L2.CX X.prog X.w) k f fd ps sp) (hr : Room k X.A) (hg : Gl X x) (hm : X.mg x = some (.ref f)) (hk : PySem.W.keepIn X.K (.ref f) = true) (hb : Binds X.K fd ps []) (hx : ∀ σ, PassesAt (L2.CX X.prog X.w) X σ (E σ))
    (hdb : (x == ("__debug__" : Str)) = false) : PE X (.Call (.Name x p) [] [] pos) (fun σ H Q => sp [] H Q (E σ)) := ⟨fun pins s σ H Q I h => wpAny_Call_Name_kw (ld_glob I hg hm
  (PySem.W.callWith_K0 I.kIn hk (run_fnS (us := []) G hr hb (hx σ) I .nil h)) hdb)⟩
theorem de_call0 (tk : Takes X C.W) (G : FnOk X.prog X.w X.K X.mg X.base (L2.CX X.prog X.w) k f fd ps (spOf X.K C.exc 0 F)) (hr : Room k X.A) (hm : X.mg x = some (.ref f)) (hk : PySem.W.keepIn X.K (.ref f) = true) (hb : Binds X.K fd ps []) (hg : Gl X x := by rfl) (hdb : (x == ("__debug__" : Str)) = false := by decide) :
    DE X C (.Call (.Name x p) [] [] pos) (eCall0 F) := PE_imp (pe_callA0 (E := WE C.W) G hr hg hm hk hb (fun σ => passAt tk σ) hdb) fun σ H Q ⟨w, e1, e2, rl, q⟩ => by
  subst e1; subst e2
  exact call_of (fun _ _ _ _ h => h) rl rfl (by show DL.Reps X.K _ _ _ [] []; simp [DL.Reps]) q
def sRaise (c : Nat) : SS := fun ε S => .ex c ε S
theorem pmk_own0 {c : Addr} {bmB : List Value} {B newId initId : String} (F : ExcBaseFacts B newId initId bmB) (q : PySem.W.excIn X.K c bmB newId = true) (gC : X.mg x = some (.ref c)) (kC : PySem.W.keepIn X.K (.ref c) = true) (r : Raises X (.ref c)) (hg : Gl X x)
    (hdb : (x == ("__debug__" : Str)) = false) : PMk X (.Call (.Name x p) [] [] pos) (fun _ H Q => Q (.ref c) none H) := by
  intro pins s σ H Q I h
  refine wpAny_Call_Name_kw (ld_glob I hg gC (PySem.W.callWith_K0 I.kIn kC ?_) hdb)
  obtain ⟨_, _, _, _, _, _, _, _, _, _, _, _, _, _, _, _, _, atC, nsC, noI, tl⟩ := exc_obj I.kIn q
  show wpAny _ _ (call (.ref c) []) _ _ _
  exact wpAny_call_exc_subT F tl atC nsC noI (fun h' e mk => mk_of I mk r h (I.hok.gone mk.new)) (Nat.zero_le _)
theorem ds_raise {c : Addr} {j : Nat} {bmB : List Value} {B newId initId : String} {rpos : Pos} (hc : X.calm = true) (tk : Takes X C.W) (ej : C.exc j = .ref c) (F : ExcBaseFacts B newId initId bmB) (q : PySem.W.excIn X.K c bmB newId = true) (gC : X.mg x = some (.ref c)) (kC : PySem.W.keepIn X.K (.ref c) = true) (r : Raises X (.ref c)) (hg : Gl X x := by rfl)
    (hdb : (x == ("__debug__" : Str)) = false := by decide) : DS X C (.Raise (some (.Call (.Name x p) [] [] pos)) none rpos) (sRaise j) := PS_imp (ps_raise hc tk (pmk_own0 F q gC kC r hg hdb)) fun E σ H ⟨w, e1, e2, rl, q⟩ => by
  subst e1; subst e2
  have := q w rfl rfl (Mono.refl w) rl
  rw [ej] at this
  exact this
def sCt : SS := fun ε S => .ct ε S
theorem ds_continue : DS X C (.Continue pos) sCt := PS_imp ps_continue fun E σ H ⟨w, e1, e2, rl, q⟩ => by
  subst e1; subst e2
  exact q w rfl rfl (Mono.refl w) rl
end
/-! ### a, b, .. = e1, e2, .. with new things among the values -/
def RepX (K : PySem.W.Frag) (w : Ws) (H0 : Hp) : SV → V → Prop
  | .val d, v => w.Rep K d v
  | .own m, v => ∃ p, v = .ref p ∧ H0 p = none ∧ Lone w p ∧ w.MOk K p m ∧ ∀ C fs, m ≠ .obj C fs
def RepsX (K : PySem.W.Frag) (w : Ws) (H0 : Hp) : List SV → List V → Prop
  | [], vs => vs = []
  | sv :: svs, vs => ∃ v ws, vs = v :: ws ∧ RepX K w H0 sv v ∧ RepsX K w H0 svs ws ∧ ∀ m, sv = .own m → ∀ (j : Nat) (m' : MO), svs[j]? = some (.own m') → ws[j]? ≠ some v
def tAX (K : PySem.W.Frag) (C : Cfg) (f : ES (List SV)) : TA := fun σ H Q => ∃ w : Ws, w.σ = σ ∧ w.H = H ∧ RelC K C w ∧ POST K C w (f w.ε w.S) fun svs w' => ∀ vs, RepsX K w' H svs vs → Q vs w'.H
def DAX (X : Cx) (C : Cfg) (es : List Expr) (f : ES (List SV)) : Prop := PA X es (tAX X.K C f)
section
variable {K : PySem.W.Frag} {C : Cfg} {w w' : Ws} {H0 : Hp}
/-- when nothing of what is held, or lies new, is lost -/
theorem RepX.next {sv : SV} {v : V} {H1 : Hp} (h : RepX K w H1 sv v) (r : Rel K w) (m : Mono w w') (hd : ∀ p, H1 p = none → H0 p = none) : RepX K w' H0 sv v := by
  cases sv with
  | val d => exact Rep.mono (m.le r) d v h
  | own x =>
    obtain ⟨p, e, h0, l, ho, no⟩ := h
    obtain ⟨o, hp, nt⟩ := ho.mt
    obtain ⟨l2, h2⟩ := l.next hp m nt
    exact ⟨p, e, hd p h0, l2, MOk.mono (m.le r) (fun u hu => m.keep p u hu l.ρ l.own (by rw [hp] at hu; cases hu; exact nt)) ho, no⟩
theorem RepsX.next {H1 : Hp} (r : Rel K w) (m : Mono w w') (hd : ∀ p, H1 p = none → H0 p = none) : ∀ {svs : List SV} {vs : List V}, RepsX K w H1 svs vs → RepsX K w' H0 svs vs
  | [], vs, h => h
  | sv :: svs, vs, h => by
    obtain ⟨v, ws, e, h1, h2, h3⟩ := h
    exact ⟨v, ws, e, RepX.next h1 r m hd, RepsX.next r m hd h2, h3⟩
theorem RepsX.at {svs : List SV} : ∀ {vs : List V} {j : Nat} {m : MO}, RepsX K w H0 svs vs → svs[j]? = some (.own m) → ∃ p, vs[j]? = some (.ref p) ∧ H0 p = none ∧ Lone w p := by
  induction svs with
  | nil => intro vs j m _ e; simp at e
  | cons sv svs ih =>
    intro vs j m h e
    obtain ⟨v, ws, ev, h1, h2, h3⟩ := h
    subst ev
    cases j with
    | zero =>
      simp only [List.getElem?_cons_zero, Option.some.injEq] at e
      subst e
      obtain ⟨p, e, h0, l, _⟩ := h1
      exact ⟨p, by rw [e]; rfl, h0, l⟩
    | succ j =>
      obtain ⟨p, e1, e2⟩ := ih (j := j) h2 (by simpa using e)
      exact ⟨p, by simpa using e1, e2⟩
end
def setAll : List Nat → List SV → EV → EV
  | i :: is, sv :: svs, ε => setAll is svs (ε.set i (some sv))
  | _, _, ε => ε
def setAllV : List Nat → List V → L2.St → L2.St
  | i :: is, v :: vs, σ => setAllV is vs (σ.set i (some v))
  | _, _, σ => σ
section
variable {K : PySem.W.Frag} {C : Cfg}
theorem par_set : ∀ (is : List Nat) (svs : List SV) (vs : List V) (w0 w : Ws), is.length = svs.length → RelC K C w0 → Mono w0 w → RelC K C w → RepsX K w w0.H svs vs → ∃ w' : Ws, w'.ε = setAll is svs w.ε ∧ w'.S = w.S ∧ w'.H = w.H ∧ w'.σ = setAllV is vs w.σ ∧ Mono w0 w' ∧ RelC K C w'
  | [], [], vs, w0, w, _, _, m, r, h => by
    have h : vs = [] := h
    subst h
    exact ⟨w, rfl, rfl, rfl, rfl, m, r⟩
  | [], _ :: _, _, _, _, e, _, _, _, _ => by simp at e
  | _ :: _, [], _, _, _, e, _, _, _, _ => by simp at e
  | i :: is, sv :: svs, vs, w0, w, e, r0, m, r, h => by
    obtain ⟨v, ws, ev, h1, h2, h3⟩ := h
    subst ev
    cases sv with
    | val d =>
      have m1 : Mono w (w.setV i d v) := Mono.setV
      have r1 := r.setV (i := i) h1
      obtain ⟨w', k1, k2, k3, k4, k5, k6⟩ := par_set is svs ws w0 (w.setV i d v) (by simpa using e) r0 (m.trans m1) r1 (RepsX.next r.r m1 (fun _ z => z) h2)
      exact ⟨w', k1, k2, k3, k4, k5, k6⟩
    | own x =>
      obtain ⟨p, ep, h0, l, ho, no⟩ := h1
      subst ep
      have r1 := r.setO (i := i) r0 m h0 l ho
      have m1 : Mono w0 (w.setO i x p) := Mono.setO m h0
      have nx : RepsX K (w.setO i x p) w0.H svs ws := by
        have apart := h3 x rfl
        clear h3 e
        induction svs generalizing ws with
        | nil => exact h2
        | cons sv svs ih =>
          obtain ⟨v, us, ev, g1, g2, g3⟩ := h2
          refine ⟨v, us, ev, ?_, ih us g2 (fun j m' hj => by have := apart (j + 1) m' (by simpa using hj); rw [ev] at this; simpa using this), g3⟩
          cases sv with
          | val d => exact g1
          | own y =>
            obtain ⟨q, eq, q0, lq, hq, nq⟩ := g1
            refine ⟨q, eq, q0, ⟨lq.z, lq.ρ, fun ow => ?_⟩, hq, nq⟩
            obtain ⟨j, z, a1, a2⟩ := ow
            rcases set_cases a2 with ⟨ej, z2, _⟩ | ⟨hj, a2⟩
            · cases z2
              have := apart 0 y rfl
              rw [ev, eq] at this
              exact this rfl
            · rcases set_cases a1 with ⟨z1, _⟩ | ⟨_, a1⟩
              · exact hj z1
              · exact lq.own ⟨j, z, a1, a2⟩
      obtain ⟨w', k1, k2, k3, k4, k5, k6⟩ := par_set is svs ws w0 (w.setO i x p) (by simpa using e) r0 m1 r1 nx
      exact ⟨w', k1, k2, k3, k4, k5, k6⟩
end
section
variable {X : Cx} {C : Cfg} {e : Expr} {es : List Expr} {f : ES D} {g : ES MO} {h : ES (List SV)} {pos : Pos}
def xNil : ES (List SV) := fun ε S => .ok [] ε S
def xVal (f : ES D) (h : ES (List SV)) : ES (List SV) := fun ε S => (f ε S).bind fun d ε S => (h ε S).bind fun svs ε S => .ok (.val d :: svs) ε S
def xOwn (g : ES MO) (h : ES (List SV)) : ES (List SV) := fun ε S => (g ε S).bind fun m ε S => (h ε S).bind fun svs ε S => .ok (.own m :: svs) ε S
theorem dax_nil : DAX X C [] xNil := PA_imp pa_nil fun σ H Q ⟨w, e1, e2, rl, q⟩ => by
  subst e2
  exact POST.now rl q [] rfl
theorem dax_val (h1 : DE X C e f) (h2 : DAX X C es h) (hs : starEach (e :: es) X.env = (false, eval e X.env) :: starEach es X.env := by rfl) : DAX X C (e :: es) (xVal f h) :=
  PA_imp (pa_cons h1 h2 hs) fun σ H Q ⟨w, e1, e2, rl, q⟩ => by
    subst e1; subst e2
    refine ⟨w, rfl, rfl, rl, POST.mono q.bind fun d w1 s1 m1 r1 ⟨_, _, _, q1⟩ v hv => ?_⟩
    refine ⟨w1, s1, rfl, r1, POST.mono q1.bind fun svs w2 s2 m2 r2 ⟨_, _, _, q2⟩ vs hvs => ?_⟩
    exact POST.now r2 q2 (v :: vs) ⟨v, vs, rfl, Rep.mono (m2.le r1.r) d v hv, RepsX.next r2.r (Mono.refl w2) m1.dom hvs, fun m z => nomatch z⟩
theorem dax_own (h1 : DF X C e g) (h2 : DAX X C es h) (hs : starEach (e :: es) X.env = (false, eval e X.env) :: starEach es X.env := by rfl) : DAX X C (e :: es) (xOwn g h) :=
  PA_imp (pa_cons h1 h2 hs) fun σ H Q ⟨w, e1, e2, rl, q⟩ => by
    subst e1; subst e2
    refine ⟨w, rfl, rfl, rl, POST.mono q.bind fun m w1 s1 m1 r1 ⟨_, _, _, q1⟩ p hp l ho no => ?_⟩
    refine ⟨w1, s1, rfl, r1, POST.mono q1.bind fun svs w2 s2 m2 r2 ⟨_, _, _, q2⟩ vs hvs => ?_⟩
    obtain ⟨o, go, _⟩ := ho.mu
    refine POST.now r2 q2 (.ref p :: vs) ⟨.ref p, vs, rfl, RepX.next (H1 := w.H) ⟨p, rfl, hp, l, ho, no⟩ r1.r m2 (fun _ z => z), RepsX.next r2.r (Mono.refl w2) m1.dom hvs, fun m _ j m' hj hv => ?_⟩
    obtain ⟨p', e1, e2, _⟩ := RepsX.at hvs hj
    rw [hv] at e1; cases e1
    rw [go] at e2; cases e2
def sPar (is : List Nat) (h : ES (List SV)) : SS := fun ε S => (h ε S).toS fun svs ε S => if is.length = svs.length then .nx (setAll is svs ε) S else .stuck
theorem par_end {is : List Nat} {w0 : Ws} {E : Ends} (r0 : RelC X.K C w0) (q : POSTS X.K C w0 (sPar is h w0.ε w0.S) E) : tAX X.K C h w0.σ w0.H fun vs H1 => vs.length = is.length ∧ E.nx (setAllV is vs w0.σ) H1 := by
  refine ⟨w0, rfl, rfl, r0, ?_⟩
  unfold sPar at q
  cases hr : h w0.ε w0.S with
  | ok svs ε S =>
    rw [hr] at q
    intro w1 k1 k2 k3 m1 r1 vs hv
    have q : POSTS X.K C w0 (if is.length = svs.length then .nx (setAll is svs ε) S else .stuck) E := q
    by_cases hl : is.length = svs.length
    · rw [if_pos hl] at q
      obtain ⟨w', g1, g2, g3, g4, g5, g6⟩ := par_set is svs vs w0 w1 hl r0 m1 r1 hv
      have len : ∀ (svs : List SV) (vs : List V), RepsX X.K w1 w0.H svs vs → vs.length = svs.length := fun svs => by
        induction svs with
        | nil => intro vs z; have z : vs = [] := z; rw [z]; rfl
        | cons sv svs ih =>
          rintro vs ⟨v, ws, e, _, h2, _⟩
          rw [e, List.length_cons, List.length_cons, ih ws h2]
      refine ⟨(len svs vs hv).trans hl.symm, ?_⟩
      have z := POSTS.nx_at q g5 g6 (by rw [g1, k1]) (by rw [g2, k2])
      rw [g4, g3, k3] at z
      exact z
    · rw [if_neg hl] at q; exact q.elim
  | ex c ε S => rw [hr] at q; intro w' a b c m r; have := q w' a b m r; rw [c] at this; exact this
  | stuck => rw [hr] at q; exact q
end
section
variable {X : Cx} {C : Cfg} {h : ES (List SV)} {pos : Pos}
theorem ds_par2 (i j : Nat) {x y : Str} {a b : Expr} {px py pt : Pos} {kt k2 pt2} (hc : X.calm = true) (hN : X.N.Nodup) (ha : DAX X C [a, b] h) (hi : X.N[i]? = some x := by rfl) (hj : X.N[j]? = some y := by rfl) (hij : i ≠ j := by decide)
    (hx : X.env.scope.names.lookup x = some .local := by rfl) (hy : X.env.scope.names.lookup y = some .local := by rfl)
    (hw : swappedStores [.Tuple [.Name x px, .Name y py] kt pt] (.Tuple [a, b] k2 pt2) X.env = pure (some [x, y]) := by rfl)
    (hs : swapsWithSole [.Tuple [.Name x px, .Name y py] kt pt] (.Tuple [a, b] k2 pt2) pos.line X.env = pure false := by rfl) :
    DS X C (.Assign [.Tuple [.Name x px, .Name y py] kt pt] (.Tuple [a, b] k2 pt2) pos) (sPar [i, j] h) := PS_imp (ps_par hc hN hi hj hij hx hy ha hw hs) fun E σ H ⟨w, e1, e2, rl, q⟩ => by
  subst e1; subst e2
  obtain ⟨w', k1, k2, k3, k4⟩ := par_end rl q
  refine ⟨w', k1, k2, k3, POST.mono k4 fun svs w1 _ _ _ z vs hv => ?_⟩
  obtain ⟨l, z⟩ := z vs hv
  match vs, l with
  | [v, u], _ => exact ⟨v, u, rfl, z⟩
theorem ds_par3 (i j l : Nat) {x y z : Str} {a b c : Expr} {px py pz pt : Pos} {kt k2 pt2} (hc : X.calm = true) (hN : X.N.Nodup) (ha : DAX X C [a, b, c] h) (hi : X.N[i]? = some x := by rfl) (hj : X.N[j]? = some y := by rfl) (hl : X.N[l]? = some z := by rfl) (hij : i ≠ j := by decide) (hil : i ≠ l := by decide) (hjl : j ≠ l := by decide)
    (hx : X.env.scope.names.lookup x = some .local := by rfl) (hy : X.env.scope.names.lookup y = some .local := by rfl) (hz : X.env.scope.names.lookup z = some .local := by rfl)
    (hw : swappedStores [.Tuple [.Name x px, .Name y py, .Name z pz] kt pt] (.Tuple [a, b, c] k2 pt2) X.env = pure (some [x, y, z]) := by rfl)
    (hs : swapsWithSole [.Tuple [.Name x px, .Name y py, .Name z pz] kt pt] (.Tuple [a, b, c] k2 pt2) pos.line X.env = pure false := by rfl) :
    DS X C (.Assign [.Tuple [.Name x px, .Name y py, .Name z pz] kt pt] (.Tuple [a, b, c] k2 pt2) pos) (sPar [i, j, l] h) := PS_imp (ps_par3 hc hN hi hj hl hij hil hjl hx hy hz ha hw hs) fun E σ H ⟨w, e1, e2, rl, q⟩ => by
  subst e1; subst e2
  obtain ⟨w', k1, k2, k3, k4⟩ := par_end rl q
  refine ⟨w', k1, k2, k3, POST.mono k4 fun svs w1 _ _ _ z vs hv => ?_⟩
  obtain ⟨l, z⟩ := z vs hv
  match vs, l with
  | [v, u, t], _ => exact ⟨v, u, t, rfl, z⟩
/-- names as targets -/
def gSet (is : List Nat) : TGs := fun vs σ H Q => vs.length = is.length ∧ Q (setAllV is vs σ) H
theorem gset_nil : PGs X [] (gSet []) := PGs_imp pgs_nil fun vs σ H Q ⟨l, q⟩ => by
  have e : vs = [] := List.length_eq_zero_iff.mp l
  subst e
  exact ⟨rfl, q⟩
theorem gset_cons (i : Nat) {x : Str} {is : List Nat} {es : List Expr} (hN : X.N.Nodup) (h2 : PGs X es (gSet is)) (hi : X.N[i]? = some x := by rfl) (hx : Loc X.env.scope x := by first | exact Or.inl rfl | exact Or.inr rfl) (hf : X.fn x = true ∨ X.env.scope.names.lookup x = some .local := by first | exact .inl rfl | exact .inr rfl)
    (hs : (assignEach (.Name x pos :: es) X.env).map (·.2) = assign (.Name x pos) X.env :: (assignEach es X.env).map (·.2) := by rfl) : PGs X (.Name x pos :: es) (gSet (i :: is)) := PGs_imp (pgs_cons (pg_name hN hi hx hf) h2 hs) fun vs σ H Q ⟨l, q⟩ => by
  match vs, l with
  | v :: vs, l => exact ⟨v, vs, rfl, by simpa using l, q⟩
theorem ds_parN {is : List Nat} {es vs : List Expr} {kt k2 : Nat} {pt pt2 : Pos} (hc : X.calm = true) (ha : DAX X C vs h) (hg : PGs X es (gSet is)) (hz : is.length ≤ sizeLine := by decide) (hn : (assignEach es X.env).length = is.length := by rfl) (hst : (assignEach es X.env).findIdx? (·.1) = none := by rfl)
    (hs : swapsWithSole [.Tuple es kt pt] (.Tuple vs k2 pt2) pos.line X.env = pure false := by rfl) (hw : swappedStores [.Tuple es kt pt] (.Tuple vs k2 pt2) X.env = pure none := by rfl) :
    DS X C (.Assign [.Tuple es kt pt] (.Tuple vs k2 pt2) pos) (sPar is h) := PS_imp (ps_asg (pe_tup ha) (pg_tup hc hg hn hst) hs hw) fun E σ H ⟨w, e1, e2, rl, q⟩ => by
  subst e1; subst e2
  unfold sPar at q
  refine ⟨w, rfl, rfl, rl, ?_⟩
  cases hr : h w.ε w.S with
  | ex c ε S => rw [hr] at q; intro w' a b c m r; have := q w' a b m r; rw [c] at this; exact this
  | stuck => rw [hr] at q; exact q
  | ok svs ε S =>
    rw [hr] at q
    intro w1 k1 k2 k3 m1 r1 us hv
    have q : POSTS X.K C w (if is.length = svs.length then .nx (setAll is svs ε) S else .stuck) E := q
    by_cases hl : is.length = svs.length
    · rw [if_pos hl] at q
      have len : ∀ (svs : List SV) (us : List V), RepsX X.K w1 w.H svs us → us.length = svs.length := fun svs => by
        induction svs with
        | nil => intro us z; have z : us = [] := z; rw [z]; rfl
        | cons sv svs ih =>
          rintro us ⟨v, ws, e, _, h2, _⟩
          rw [e, List.length_cons, List.length_cons, ih ws h2]
      have lu := (len svs us hv).trans hl.symm
      refine ⟨by rw [lu]; exact hz, fun t ht => ⟨t, us, rfl, .inl (.inl upd_same), lu, lu, ?_⟩⟩
      have r2 : RelC X.K C (w1.lay t (.tup us)) := r1.lay ht (by show us.length ≤ _; rw [lu]; exact hz)
      have m2 : Mono w1 (w1.lay t (.tup us)) := Mono.lay ht
      obtain ⟨w', g1, g2, g3, g4, g5, g6⟩ := par_set is svs us w (w1.lay t (.tup us)) hl rl (m1.trans m2) r2 (RepsX.next r1.r m2 (fun _ z => z) hv)
      have z := POSTS.nx_at q g5 g6 (by rw [g1, ← k1]) (by rw [g2, ← k2])
      rw [g4, g3] at z
      rw [← k3]
      exact z
    · rw [if_neg hl] at q; exact q.elim
end
end DL
namespace DL
open L2 PyProof.Rows PySem PySem.Spec
variable [TabT]
section
variable {X : Cx} {C : Cfg} {tg e : Expr} {f : ES D} {es : List Expr} {pos : Pos}
/-- what is walked: a list, a tuple, a text -/
def iSeqV (K : PySem.W.Frag) (te : TE) : TI := fun σ H R => te σ H fun x H1 => (∃ a, x = .ref a ∧ (∃ xs, SqL K H1 a xs) ∧ R (Itl K a) H1) ∨ ((∃ a, x = .ref a ∧ (∃ xs, SqT K H1 a xs) ∧ R (Itt K a) H1) ∨ ∃ z, x = .str z ∧ R (Its z) H1)
theorem pi_seqV {te : TE} (he : PE X e te) : PI X tg e (iSeqV X.K te) := ⟨fun pins s σ H R I h => thn (he.run pins s σ H _ I h) fun v s1 ⟨x, H1, I1, r1, q1⟩ => by
  have key : ∀ b, b = s1.heap.objs.size → FpOk X pins H1 b := fun b e => by
    rw [e]
    exact I1.fpOk (Nat.le_refl _) (I1.hok.fresh (Nat.le_refl _))
  rcases q1 with ⟨a, ex, ⟨xs, hq⟩, q⟩ | ⟨a, ex, ⟨xs, hq⟩, q⟩ | ⟨z, ex, q⟩
  · subst ex
    cases r1
    obtain ⟨its, rv, p, hz⟩ := I1.list hq
    exact wpAny_pyIter_list p.isList ⟨s1.heap.objs.size, [s1.heap.objs.size], _, _, H1, rfl,
      I1.kept (t' := s1.toks) fun b o e => Heap.get?_push_of_some _ e, turn_list a _, ⟨_, Heap.get?_push_size _ rfl, rfl, rfl⟩, fun b hb => key b (by simpa using hb), q⟩
  · subst ex
    cases r1
    obtain ⟨its, rv, p, hz⟩ := I1.tuple hq
    exact wpAny_pyIter_tuple (show s1.heap.IsTuple a its.toArray from p) ⟨s1.heap.objs.size, [s1.heap.objs.size], _, _, H1, rfl,
      I1.kept (t' := s1.toks) fun b o e => Heap.get?_push_of_some _ e, turn_tuple a _, ⟨_, Heap.get?_push_size _ rfl, rfl, rfl⟩, fun b hb => key b (by simpa using hb), q⟩
  · subst ex
    obtain ⟨t, rfl⟩ := r1
    cases ha : z.cps.all (· < 128)
    · exact wpAny_pyIter_wide ha (pi_one (tk := s1.toks) I1 _ (turn_str _ z t "str_iterator" (.inr rfl)) ⟨_, Heap.get?_push_size _ rfl, rfl, rfl⟩ q)
    · exact wpAny_pyIter_ascii ha (pi_one (tk := s1.toks) I1 _ (turn_str _ z t "str_ascii_iterator" (.inl rfl)) ⟨_, Heap.get?_push_size _ rfl, rfl, rfl⟩ q)⟩
def chars (x : Str) : List D := x.cps.toList.map fun c => .str ⟨#[c]⟩
theorem iter_str {K : PySem.W.Frag} {w : Ws} {x : Str} (hz : x.length ≤ sizeLine) (r : RelC K C w) : IterOk K C w (Its x) (chars x) := by
  have hl : (chars x).length = x.cps.size := by unfold chars; rw [List.length_map, Array.length_toList]
  refine ⟨by rw [hl]; exact hz, fun _ => True, fun i H v H' => H' = H ∧ ∃ c, x.cps[i]? = some c ∧ v = .str ⟨#[c]⟩, ?_, fun w2 m r2 => ⟨trivial, fun i d v H3 hd hy => ?_⟩⟩
  · rw [hl]
    exact ⟨fun i H hi _ => hi, fun H _ => Nat.le_refl _, fun i H v H' _ _ y => y⟩
  · obtain ⟨e, c, hc, hv⟩ := hy
    subst e; subst hv
    unfold chars at hd
    rw [List.getElem?_map, Array.getElem?_toList, hc] at hd
    cases hd
    exact ⟨w2, rfl, rfl, rfl, rfl, Mono.refl w2, r2, by simp⟩
def seqOf : D → Option (List D)
  | .lst ds => some ds
  | .tup ds => some ds
  | .str x => if x.length ≤ sizeLine then some (chars x) else none
  | _ => none
def iSeq (f : ES D) : ES (List D) := fun ε S => (f ε S).bind fun d ε S => R.opt (seqOf d) ε S
theorem di_seq (h : DE X C e f) : DI X C tg e (iSeq f) := PI_imp (pi_seqV h) fun σ H P0 ⟨w, e1, e2, rl, q⟩ => by
  refine ⟨w, e1, e2, rl, POST.mono (POST.bind q) fun d w1 s1 m1 r1 ⟨_, _, _, q1⟩ v hv => ?_⟩
  obtain ⟨ds, hd, q1⟩ := POST.opt q1
  unfold seqOf at hd
  cases d with
  | lst xs =>
    cases hd
    obtain ⟨a, vs, e, h1, h2⟩ := rep_lst.mp hv
    exact .inl ⟨a, e, ⟨vs, h1.sq⟩, POST.now r1 q1 _ (iter_lst r1 h1 h2)⟩
  | tup xs =>
    cases hd
    obtain ⟨a, vs, e, h1, h2⟩ := rep_tup.mp hv
    exact .inr (.inl ⟨a, e, ⟨vs, h1.sq⟩, POST.now r1 q1 _ (iter_tup r1 h1 h2)⟩)
  | str x =>
    obtain ⟨hl, e⟩ := ite_some hd
    subst e
    have hv := rep_str.mp hv
    exact .inr (.inr ⟨x, hv, POST.now r1 q1 _ (iter_str hl r1)⟩)
  | _ => cases hd
/-- (a, b, ..) = a tuple or a list -/
def gSeqD (n : Nat) (g : GSs) : GS := fun d ε S => match dItems d with
  | some ds => if ds.length = n then g ds ε S else .stuck
  | none => .stuck
theorem PG_or {t t' : TG} (h : PG X e t) (h' : PG X e t') : PG X e (fun v σ H Q => t v σ H Q ∨ t' v σ H Q) := ⟨fun pins s σ H v u Q I r q => q.elim (h.run pins s σ H v u Q I r) (h'.run pins s σ H v u Q I r)⟩
theorem dg_seq {k : Nat} {us : List Nat} {g : GSs} {n : Nat} (hc : X.calm = true) (h : DGs X C us es g) (hn : (assignEach es X.env).length = n := by rfl) (hst : (assignEach es X.env).findIdx? (·.1) = none := by rfl) :
    DG X C us (.Tuple es k pos) (gSeqD n g) := PG_imp (PG_or (pg_tup hc h hn hst) (pg_lst hc h hn hst)) fun v σ H Q ⟨w, d, e1, e2, rl, hv, q⟩ => by
  subst e2
  unfold gSeqD at q
  cases d with
  | tup ds =>
    obtain ⟨a, vs, ev, hs, hr⟩ := rep_tup.mp hv
    have q : POSTG X.K C w us (if ds.length = n then g ds w.ε w.S else .stuck) _ := q
    by_cases hl : ds.length = n
    · rw [if_pos hl] at q
      exact .inl ⟨a, vs, ev, hs.sq, hr.length.trans hl, w, ds, e1, rfl, rl, hr, q⟩
    · rw [if_neg hl] at q; exact False.elim q
  | lst ds =>
    obtain ⟨a, vs, ev, hs, hr⟩ := rep_lst.mp hv
    have q : POSTG X.K C w us (if ds.length = n then g ds w.ε w.S else .stuck) _ := q
    by_cases hl : ds.length = n
    · rw [if_pos hl] at q
      exact .inr ⟨a, vs, ev, hs.sq, hr.length.trans hl, w, ds, e1, rfl, rl, hr, q⟩
    · rw [if_neg hl] at q; exact False.elim q
  | _ => exact False.elim q
/-! pure displays -/
def pTup (g : EV → Sto → Option (List D)) : PF := fun ε S => (g ε S).bind fun ds => if ds.length ≤ sizeLine then some (.tup ds) else none
def pLst (g : EV → Sto → Option (List D)) : PF := fun ε S => (g ε S).bind fun ds => if ds.length ≤ sizeLine then some (.lst ds) else none
theorem dp_tup {k} {g : EV → Sto → Option (List D)} (h : DPA X C es g) : DP X C (.Tuple es k pos) (pTup g) := PE_imp (pe_tup h) fun σ H Q ⟨w, d, e1, e2, rl, hf, gr⟩ => by
  obtain ⟨ds, h1, h2⟩ := bind_some hf
  obtain ⟨hl, e⟩ := ite_some h2
  subst e
  refine ⟨w, ds, e1, e2, rl, h1, fun vs H' N s sz n hv => ?_⟩
  have hz : vs.length ≤ sizeLine := by rw [Reps.length hv]; exact hl
  exact ⟨hz, fun p hp => (gr.after s n).tup sz hv hz hp⟩
theorem dp_lst {g : EV → Sto → Option (List D)} (h : DPA X C es g) : DP X C (.List es pos) (pLst g) := PE_imp (pe_lst h) fun σ H Q ⟨w, d, e1, e2, rl, hf, gr⟩ => by
  obtain ⟨ds, h1, h2⟩ := bind_some hf
  obtain ⟨hl, e⟩ := ite_some h2
  subst e
  refine ⟨w, ds, e1, e2, rl, h1, fun vs H' N s sz n hv => ?_⟩
  have hz : vs.length ≤ sizeLine := by rw [Reps.length hv]; exact hl
  exact ⟨hz, fun p hp => (gr.after s n).lst sz hv hz hp⟩
end
theorem op_inA {X : Cx} (hu : X.A.units + 64 < cLine) : OpR X (compareOp .In) (fun x y H Q => rInT X.K false x y H Q ∨ rInDic false x y H Q) := OpR_or (op_inT hu) (op_inDic (by omega))
theorem op_notInA {X : Cx} (hu : X.A.units + 64 < cLine) : OpR X (compareOp .NotIn) (fun x y H Q => rInT X.K true x y H Q ∨ rInDic true x y H Q) := OpR_or (op_notInT hu) (op_notInDic (by omega))
/-! a name = [..] -/
section
variable {X : Cx} {C : Cfg}
theorem frz_sem {K : PySem.W.Frag} {f : ES MO} {σ : L2.St} {H : Hp} {Q : VK} (h : tE K C (eFrz f) σ H Q) : tF K C f σ H Q := by
  obtain ⟨w, e1, e2, rl, q⟩ := h
  subst e1; subst e2
  refine ⟨w, rfl, rfl, rl, ?_⟩
  unfold eFrz at q
  cases hr : f w.ε w.S with
  | ok m ε S =>
    rw [hr] at q
    intro w1 k1 k2 k3 m1 r1 p hp l ho no
    obtain ⟨r2, rep⟩ := MOk.frz rl m1 hp r1 l ho no
    exact POST.at q (Mono.frz m1 hp) r2 k1 k2 k3 _ rep
  | ex c ε S => rw [hr] at q; exact q
  | stuck => rw [hr] at q; exact q
theorem own_sem {K : PySem.W.Frag} {i : Nat} {f : ES MO} {E : Ends} {σ : L2.St} {H : Hp} (h : tSS K C (sOwn i f) E σ H) : tF K C f σ H fun x H1 => E.nx (σ.set i (some x)) H1 := by
  obtain ⟨w, e1, e2, rl, q⟩ := h
  subst e1; subst e2
  refine ⟨w, rfl, rfl, rl, ?_⟩
  unfold sOwn at q
  cases hr : f w.ε w.S with
  | ok a ε S =>
    rw [hr] at q
    intro w1 k1 k2 k3 m1 r1 p hp l ho no
    have z := POSTS.nx_at (w' := w1.setO i a p) q (Mono.setO m1 hp) (RelC.setO r1 rl m1 hp l ho) (by show w1.ε.set i _ = _; rw [k1]) k2
    rw [← k3]; exact z
  | ex c ε S =>
    rw [hr] at q
    intro w1 k1 k2 k3 m1 r1
    rw [← k3]; exact q w1 k1 k2 m1 r1
  | stuck => rw [hr] at q; exact q
theorem set_sem {K : PySem.W.Frag} {i : Nat} {f : ES D} {E : Ends} {σ : L2.St} {H : Hp} (h : tSS K C (sSet i f) E σ H) : tE K C f σ H fun x H1 => E.nx (σ.set i (some x)) H1 := by
  obtain ⟨w, e1, e2, rl, q⟩ := h
  refine ⟨w, e1, e2, rl, POST.mono q.of fun d w1 s1 m1 r1 ⟨_, _, _, q1⟩ v hv => ?_⟩
  have z := POSTS.nx_at q1 (Mono.setV (i := i) (d := d) (v := v)) (r1.setV hv) rfl rfl
  have s : w1.σ = σ := s1.trans e1
  subst s
  exact z
variable {elt tg iter : Expr} {ifs : List Expr} {scope : Scope} {own : List (Str × Nat)} {pos py spos : Pos} {it : ES (List D)} {g : GS} {t : ES Bool} {f : ES D} {us : List Nat} {y : Str}
theorem ds_ownLc (i : Nat) (hc : X.calm = true) (hN : X.N.Nodup) (hi : DI X C tg iter it) (ok : BlkOk X.N X.env.scope scope own)
    (hg : ∀ (s : Shared) (H : Hp) (C' : Addr) (cl : List (Str × Addr)) (fp : List Addr), DG (X.blk s H scope (compEnvC scope cl C' X.env) fp) C.no us tg g)
    (ht : ∀ (s : Shared) (H : Hp) (C' : Addr) (cl : List (Str × Addr)) (fp : List Addr), DTs (X.blk s H scope (compEnvC scope cl C' X.env) fp) C.no ifs t)
    (he : ∀ (s : Shared) (H : Hp) (C' : Addr) (cl : List (Str × Addr)) (fp : List Addr), DE (X.blk s H scope (compEnvC scope cl C' X.env) fp) C.no elt f)
    (hu : ∀ i ∈ us, i ∈ own.map (·.2) := by decide) (hs : ∀ x, foldedSetIterable iter X.env x = pure x := by intro _; rfl) (hy : X.N[i]? = some y := by rfl) (hyl : X.env.scope.names.lookup y = some .local := by rfl)
    (hsw : swapsWith (.ListComp elt [⟨tg, iter, ifs, 0⟩] scope pos) (some (.Name y py)) spos.line X.env = pure true := by exact sw_true rfl rfl rfl (by decide +kernel)) :
    DS X C (.Assign [.Name y py] (.ListComp elt [⟨tg, iter, ifs, 0⟩] scope pos) spos) (sOwn i (eComp it g t f (own.map (·.2)))) :=
  PS_imp (ps_setLc (wi := tI X.K C it) (g := tGG X.K C.no us g) (tt := tT X.K C.no t) (te := tE X.K C.no f) hc hN hy hyl hsw hi ok hg ht he hs) fun E σ H h => lc_of hu σ H _ (own_sem h)
theorem ds_setLc (i : Nat) (hc : X.calm = true) (hN : X.N.Nodup) (hi : DI X C tg iter it) (ok : BlkOk X.N X.env.scope scope own)
    (hg : ∀ (s : Shared) (H : Hp) (C' : Addr) (cl : List (Str × Addr)) (fp : List Addr), DG (X.blk s H scope (compEnvC scope cl C' X.env) fp) C.no us tg g)
    (ht : ∀ (s : Shared) (H : Hp) (C' : Addr) (cl : List (Str × Addr)) (fp : List Addr), DTs (X.blk s H scope (compEnvC scope cl C' X.env) fp) C.no ifs t)
    (he : ∀ (s : Shared) (H : Hp) (C' : Addr) (cl : List (Str × Addr)) (fp : List Addr), DE (X.blk s H scope (compEnvC scope cl C' X.env) fp) C.no elt f)
    (hu : ∀ i ∈ us, i ∈ own.map (·.2) := by decide) (hs : ∀ x, foldedSetIterable iter X.env x = pure x := by intro _; rfl) (hy : X.N[i]? = some y := by rfl) (hyl : X.env.scope.names.lookup y = some .local := by rfl)
    (hsw : swapsWith (.ListComp elt [⟨tg, iter, ifs, 0⟩] scope pos) (some (.Name y py)) spos.line X.env = pure true := by exact sw_true rfl rfl rfl (by decide +kernel)) :
    DS X C (.Assign [.Name y py] (.ListComp elt [⟨tg, iter, ifs, 0⟩] scope pos) spos) (sSet i (eFrz (eComp it g t f (own.map (·.2))))) :=
  PS_imp (ps_setLc (wi := tI X.K C it) (g := tGG X.K C.no us g) (tt := tT X.K C.no t) (te := tE X.K C.no f) hc hN hy hyl hsw hi ok hg ht he hs) fun E σ H h => lc_of hu σ H _ (frz_sem (set_sem h))
end
end DL
namespace DL
open L2 PyProof.Rows PySem PySem.Spec
variable [TabT]
/-! ### sets of ints -/
abbrev emptyO (w : World) : Obj := { cls := .type "set", dict := none, data := .set #[] 0 (.fresh 0 0 (!w.params.followText "set-order")) }
section
variable {P : Program} {w : World} {A : Around} {E : Value → Shared → Prop} {s : Shared}
theorem call_set_lstI {l : Addr} {xs : Array Value} (ns : List Int) {Q : Value → Shared → Prop} (hh : A.handled = none) (hl : s.heap.IsList l xs) (hit : IntsAre xs.toList ns) (hb : ns.length + 1 < scanBound)
    (q : ∀ (h' : Heap) (tk c : Nat), SetR w h' s.heap.objs.size (fun j => decide (j ∈ ns)) c → c ≤ ns.length → (∀ b o, s.heap.get? b = some o → h'.get? b = some o) → Q (.ref s.heap.objs.size) { s with heap := h', toks := tk }) :
    wpAny (model P w) A (call (.type "set") [.ref l]) Q E s := by
  have sz : xs.size = ns.length := by
    have z := IntsAre.length hit
    rwa [Array.length_toList] at z
  obtain ⟨cc, tt, hmro⟩ := PySem.F.called_set.mro
  have mkd := PySem.F.called_set.made
  have sbd := PySem.F.called_set.sub
  refine wpAny_call (codeAny_of_tree ?_)
  show wpAny _ _ (callAny (.type "set") _) _ _ _
  refine wpAny_pure ⟨Code.quiet_builtin _ (by decide +kernel),
    codeAny_builtin PySem.F.entry_type_call ?_⟩
  rw [Around.under_plain (weight_type_call_type "set" [.ref l] []) rfl]
  have n1 := PySem.F.called_set.notType
  have n2 := PySem.F.called_set.canCreate
  have n3 := PySem.F.typeCall_set_1 (.ref l)
  repeat (any_goals (first | assumption | wp_step))
  refine codeAny_mono (code_set_led1 (.ref l) (E := E)
    (Q₁ := fun ob sb => ob = .ref s.heap.objs.size ∧ sb = { s with heap := s.heap.push (emptyO w) }) ⟨rfl, rfl⟩) fun r sb hr => ?_
  cases r with
  | error e => exact hr
  | ok fl =>
    cases fl with
    | next => exact hr.elim
    | brk => exact hr.elim
    | cont => exact hr.elim
    | ret ob =>
      obtain ⟨rfl, rfl⟩ := hr
      have gS : (s.heap.push (emptyO w)).get? s.heap.objs.size = some (emptyO w) := Heap.get?_push_size _ rfl
      have tS : Shared.TypeIs { s with heap := s.heap.push (emptyO w) } (.ref s.heap.objs.size) "set" := ⟨_, gS, rfl⟩
      have i1 := PySem.F.called_set.init.lookup
      have i2 := PySem.F.called_set.init.bind (.ref s.heap.objs.size)
      repeat (any_goals (first | assumption | wp_step))
      refine codeAny_mono (codeAny_call_builtin (R := wants (fun r sc => r = .none ∧ ∃ h' tk c, sc = { s with heap := h', toks := tk } ∧
          SetR w h' s.heap.objs.size (fun j => decide (j ∈ ns)) c ∧ c ≤ ns.length ∧ ∀ b o, s.heap.get? b = some o → h'.get? b = some o) E)
        PySem.F.called_set.init.plain PySem.F.entry_set_init (check_set_init_1 tS ?_)) fun r2 sc hr2 => ?_
      · obtain ⟨ol, gl, cl, nl, dl⟩ := hl
        obtain ⟨oc, od, oda, osl⟩ := ol
        simp only at cl dl
        subst cl; subst dl
        have gl2 : (s.heap.push (emptyO w)).get? l = some { cls := .type "list", dict := od, data := .seq xs nl, slots := osl } := Heap.get?_push_of_some _ gl
        have z1 := PySem.F.sub_list_set
        have z2 := PySem.F.sub_list_frozenset
        have z3 : (Value.type "list" == Value.type "dict") = false := by decide
        have L1 : (s.heap.push (emptyO w)).IsList l xs := ⟨_, gl2, rfl, nl, rfl⟩
        unfold Builtin.«set.__init__» noKeywords Builtin.Frozenset.updateFrom
        generalize hPI : pyIter = PI
        wp_walk
        subst hPI
        refine wpAny_pyIter_list L1 ?_
        refine wpAny_bind (wpAny_runValue ?_)
        have lS : l < s.heap.objs.size := Heap.lt_size gl
        have h3 : A.in1.in1.in1.handled = none := by simp [hh]
        have zz : (s.heap.push (emptyO w)).objs.size = s.heap.objs.size + 1 := Heap.size_push ..
        have ne1 : l ≠ (s.heap.push (emptyO w)).objs.size := by
          rw [zz]; exact Nat.ne_of_lt (Nat.lt_succ_of_lt lS)
        have nf : s.heap.objs.size ∉ [(s.heap.push (emptyO w)).objs.size, l] := by
          rw [zz]
          simp only [List.mem_cons, List.mem_singleton, List.not_mem_nil, or_false, not_or]
          exact ⟨Nat.ne_of_lt (Nat.lt_succ_self _), Nat.ne_of_gt lS⟩
        have vals : ∀ (i : Nat) (v : Value), xs[i]? = some v → ∃ k t, ns[i]? = some k ∧ v = .int k t := fun i v hv => by
          have hi : i < ns.length := by rw [← sz]; exact (Array.getElem?_eq_some_iff.mp hv).1
          obtain ⟨t, e⟩ := PyProof.Rows.IntsAre.int_at hit i v (by rw [Array.getElem?_toList]; exact hv)
          refine ⟨ns[i], t, List.getElem?_eq_getElem hi, ?_⟩
          rw [e, List.getD_eq_getElem?_getD, List.getElem?_eq_getElem hi]
          rfl
        refine set_update_ints ((Walks.list h3 _ l ne1 xs).toS) s.heap.objs.size nf ns sz hb vals (xs.size - 0) 0 _ (by omega) (Nat.zero_le _)
          ⟨⟨_, Heap.get?_push_size _ rfl, rfl, rfl⟩, L1.push _⟩ ?_ ?_
        · exact ⟨0, Nat.le_refl 0, setR_new_at (Heap.get?_push_of_some _ gS)⟩
        · intro se ce mv hce Re
          obtain ⟨h', g2, d', tk', os'⟩ := se
          have eg : g2 = s.gens := mv.gens
          have ed : d' = s.drawn := mv.drawn
          have eo : os' = s.os := mv.os
          subst eg; subst ed; subst eo
          show wpAny _ _ _ _ _ _
          refine wpAny_pure ?_
          show wpAny _ _ (ret Value.none) _ _ _
          rw [sz] at hce
          refine wpAny_pure ⟨rfl, h', tk', ce, rfl, Re, hce, fun b o e => ?_⟩
          have b0 : b < s.heap.objs.size := Heap.lt_size e
          have b1 : b ≠ s.heap.objs.size := Nat.ne_of_lt b0
          have b2 : b ≠ (s.heap.push (emptyO w)).objs.size := by
            rw [zz]; exact Nat.ne_of_lt (Nat.lt_succ_of_lt b0)
          refine mv.heap b o ?_ (Heap.get?_push_of_some _ (Heap.get?_push_of_some _ e))
          simp only [List.mem_cons, List.mem_singleton, List.not_mem_nil, or_false, not_or]
          exact ⟨b1, b2⟩
      · cases r2 with
        | error e => exact hr2
        | ok f2 =>
          cases f2 with
          | ret v =>
            obtain ⟨rfl, h', tk, c, rfl, Re, hc, kp⟩ := hr2
            repeat (any_goals (first | assumption | wp_step))
            exact q h' tk c Re hc kp
          | next => exact hr2.elim
          | brk => exact hr2.elim
          | cont => exact hr2.elim
end
def insU (x : Int) : List Int → List Int
  | [] => [x]
  | y :: ys => if x < y then x :: y :: ys else if x = y then y :: ys else y :: insU x ys
/-- rising, each once -/
def sortU : List Int → List Int
  | [] => []
  | x :: xs => insU x (sortU xs)
theorem insU_mem (x z : Int) : ∀ l, z ∈ insU x l ↔ z = x ∨ z ∈ l
  | [] => by simp [insU]
  | y :: ys => by
    unfold insU
    by_cases h : x < y
    · rw [if_pos h]; simp
    · rw [if_neg h]
      by_cases e : x = y
      · rw [if_pos e]; subst e; simp
      · rw [if_neg e, List.mem_cons, insU_mem x z ys, List.mem_cons]
        constructor
        · rintro (h | h | h)
          · exact .inr (.inl h)
          · exact .inl h
          · exact .inr (.inr h)
        · rintro (h | h | h)
          · exact .inr (.inl h)
          · exact .inl h
          · exact .inr (.inr h)
theorem sortU_mem (z : Int) : ∀ l, z ∈ sortU l ↔ z ∈ l
  | [] => by simp [sortU]
  | x :: xs => by
    unfold sortU
    rw [insU_mem, sortU_mem z xs, List.mem_cons]
theorem insU_up (x : Int) : ∀ l, l.Pairwise (· < ·) → (insU x l).Pairwise (· < ·)
  | [], _ => List.pairwise_singleton _ _
  | y :: ys, h => by
    unfold insU
    have h1 := List.pairwise_cons.mp h
    by_cases c : x < y
    · rw [if_pos c]
      refine List.pairwise_cons.mpr ⟨fun z hz => ?_, h⟩
      rcases List.mem_cons.mp hz with e | e
      · subst e; exact c
      · have := h1.1 z e
        omega
    · rw [if_neg c]
      by_cases e : x = y
      · rw [if_pos e]; exact h
      · rw [if_neg e]
        refine List.pairwise_cons.mpr ⟨fun z hz => ?_, insU_up x ys h1.2⟩
        rcases (insU_mem x z ys).mp hz with k | k
        · subst k; omega
        · exact h1.1 z k
theorem sortU_up : ∀ l, (sortU l).Pairwise (· < ·)
  | [] => List.Pairwise.nil
  | x :: xs => insU_up x _ (sortU_up xs)
theorem up_uniq : ∀ {a b : List Int}, a.Pairwise (· < ·) → b.Pairwise (· < ·) → (∀ z, z ∈ a ↔ z ∈ b) → a = b
  | [], [], _, _, _ => rfl
  | [], y :: b, _, _, h => by have := (h y).mpr List.mem_cons_self; simp at this
  | x :: a, [], _, _, h => by have := (h x).mp List.mem_cons_self; simp at this
  | x :: a, y :: b, ha, hb, h => by
    have h1 := List.pairwise_cons.mp ha
    have h2 := List.pairwise_cons.mp hb
    have e : x = y := by
      rcases List.mem_cons.mp ((h x).mp List.mem_cons_self) with e | e
      · exact e
      · rcases List.mem_cons.mp ((h y).mpr List.mem_cons_self) with e2 | e2
        · exact e2.symm
        · have k1 := h1.1 y e2
          have k2 := h2.1 x e
          omega
    subst e
    rw [up_uniq h1.2 h2.2 fun z => ?_]
    constructor
    · intro hz
      rcases List.mem_cons.mp ((h z).mp (List.mem_cons_of_mem _ hz)) with e | e
      · have := h1.1 z hz
        omega
      · exact e
    · intro hz
      rcases List.mem_cons.mp ((h z).mpr (List.mem_cons_of_mem _ hz)) with e | e
      · have := h2.1 z hz
        omega
      · exact e
/-- set(xs) -/
def rSetI (K : PySem.W.Frag) (w : World) : List V → Hp → VK → Prop := fun vs H Q => ∃ (l : Addr) (ns : List Int), vs = [.ref l] ∧ (SqL K H l (ns.map V.int) ∨ SqT K H l (ns.map V.int)) ∧ ns.length + 1 < scanBound ∧
  ∀ p c, H p = none → c ≤ ns.length → Q (.ref p) (upd H p (SetO w p (fun j => decide (j ∈ ns)) c))
section
variable {X : Cx}
theorem cr_setI (hc : X.calm = true) : CallR X (.type "set") (rSetI X.K X.w) := by
  intro pins s σ H vs us Q I r h
  obtain ⟨l, ns, rfl, hq, hb, q⟩ := h
  rw [Vals.ref1 r]
  have fin : ∀ (h' : Heap) (tk c : Nat), SetR X.w h' s.heap.objs.size (fun j => decide (j ∈ ns)) c → c ≤ ns.length → (∀ b o, s.heap.get? b = some o → h'.get? b = some o) → EP X pins σ Q (.ref s.heap.objs.size) { s with heap := h', toks := tk } := fun h' tk c R hcn kp =>
    ⟨.ref _, upd H s.heap.objs.size (SetO X.w s.heap.objs.size (fun j => decide (j ∈ ns)) c), I.laid (t' := tk) kp (Nat.le_refl _) (setO_new R), rfl, q _ _ (I.hok.fresh (Nat.le_refl _)) hcn⟩
  rcases hq with hq | hq
  · obtain ⟨its, rv, pl, hz⟩ := I.list hq
    exact call_set_lstI ns (I.ok.hd hc) pl.isList (ints_of_vals rv) hb fin
  · obtain ⟨its, rv, pl, hz⟩ := I.tuple hq
    exact call_set_tupI ns (I.ok.hd hc) (show s.heap.IsTuple l its.toArray from pl) (ints_of_vals rv) hb fin
variable {C : Cfg} {e : Expr} {f : ES D} {p p2 pos pos2 : Pos}
def dSortSet : D → Option D
  | .lst ds => (intsOf ds).bind fun ns => if ns.length < 64 then some (.lst ((sortU ns).map D.int)) else none
  | .tup ds => (intsOf ds).bind fun ns => if ns.length < 64 then some (.lst ((sortU ns).map D.int)) else none
  | _ => none
def eSortSet (f : ES D) : ES D := fun ε S => (f ε S).bind fun d ε S => R.opt (dSortSet d) ε S
/-- sorted(set(xs)), ints -/
theorem de_sortSet (hc : X.calm = true) (he : DE X C e f) (hm : X.mg "sorted" = none) (hm2 : X.mg "set" = none) (hg : Gl X "sorted" := by rfl) (hg2 : Gl X "set" := by rfl)
    (hs1 : starEach [e] X.env = (false, eval e X.env) :: starEach [] X.env := by rfl) (hp1 : (backTo pos2 (starEach [] X.env)).any (·.1) = false := by rfl)
    (hs2 : starEach [.Call (.Name "set" p2) [e] [] pos2] X.env = (false, eval (.Call (.Name "set" p2) [e] [] pos2) X.env) :: starEach [] X.env := by rfl) (hp2 : (backTo pos (starEach [] X.env)).any (·.1) = false := by rfl) :
    DE X C (.Call (.Name "sorted" p) [.Call (.Name "set" p2) [e] [] pos2] [] pos) (eSortSet f) := by
  have h1 : PE X (.Call (.Name "set" p2) [e] [] pos2) _ := pe_callTy (cr_setI hc) hg2 hm2 (by decide +kernel) (pa_cons he pa_nil hs1) (he := hs1) (hpl := hp1)
  have h2 := pe_callB (pos := pos) (cr_sortedSet hc) hg hm (by decide +kernel) (pa_cons h1 pa_nil hs2) (p := p) (he := hs2) (hpl := hp2)
  refine PE_imp h2 fun σ H Q ⟨w, e1, e2, rl, q⟩ => ?_
  refine ⟨w, e1, e2, rl, POST.mono (POST.bind q) fun d w1 s1 m1 r1 ⟨_, _, _, q1⟩ v hv => ?_⟩
  obtain ⟨d', hd, q1⟩ := POST.opt q1
  have main : ∀ (l : Addr) (ns : List Int), v = .ref l → (SqL X.K w1.H l (ns.map V.int) ∨ SqT X.K w1.H l (ns.map V.int)) → ns.length < 64 → d' = .lst ((sortU ns).map D.int) →
      rSetI X.K X.w [v] w1.H fun x H1 => rSortedSet X.w [x] H1 Q := fun l ns ev hq hl ed => by
    subst ev
    refine ⟨l, ns, rfl, hq, by unfold scanBound; omega, fun t c ht hcn => ⟨t, _, c, rfl, upd_same, by omega, fun out t2 h3 h4 h5 ht2 => ?_⟩⟩
    have eo : out = sortU ns := up_uniq h3 (sortU_up ns) fun z => by rw [h4, sortU_mem, decide_eq_true_eq]
    subst eo
    have r2 : RelC X.K C (w1.lay t (SetO X.w t (fun j => decide (j ∈ ns)) c)) := r1.lay ht trivial
    have m2 : Mono w1 (w1.lay t (SetO X.w t (fun j => decide (j ∈ ns)) c)) := Mono.lay ht
    have so : SzOk (.lst ((sortU ns).map V.int)) := by
      show ((sortU ns).map V.int).length ≤ sizeLine
      have : (64 : Nat) ≤ sizeLine := by decide
      rw [List.length_map, h5]
      omega
    have r3 := r2.lay (p := t2) (o := .lst ((sortU ns).map V.int)) ht2 so
    have m3 := m2.trans (Mono.lay (o := .lst ((sortU ns).map V.int)) ht2)
    have ln := Lone.of (o := .lst ((sortU ns).map V.int)) r2 ht2
    have h0 : w1.H t2 = none := m2.dom t2 ht2
    have intsR : ∀ (Z : Addr → Prop) (ρ : List Addr) (H : Hp) (l : List Int), Reps X.K Z ρ H (l.map D.int) (l.map V.int) := fun Z ρ H l => by
      induction l with
      | nil => simp [DL.Reps]
      | cons a l ih =>
        show DL.Reps X.K Z ρ H (.int a :: l.map D.int) (.int a :: l.map V.int)
        simp only [DL.Reps]
        exact ⟨.int a, _, rfl, rep_int.mpr rfl, ih⟩
    obtain ⟨r4, k4⟩ := MOk.frz (m := .lst ((sortU ns).map D.int)) r1 m3 h0 r3 ln ⟨_, upd_same, intsR _ _ _ _⟩ fun _ _ z => nomatch z
    rw [ed] at q1
    exact POST.at q1 (Mono.frz m3 h0) r4 rfl rfl rfl _ k4
  cases d with
  | lst ds =>
    obtain ⟨a, vs, ev, k1, k2⟩ := rep_lst.mp hv
    obtain ⟨ns, h3, h4⟩ := bind_some hd
    obtain ⟨h5, h6⟩ := ite_some h4
    have := intsOf_some h3
    subst this
    rw [reps_ints k2] at k1
    exact main a ns ev (.inl k1.sq) h5 h6.symm
  | tup ds =>
    obtain ⟨a, vs, ev, k1, k2⟩ := rep_tup.mp hv
    obtain ⟨ns, h3, h4⟩ := bind_some hd
    obtain ⟨h5, h6⟩ := ite_some h4
    have := intsOf_some h3
    subst this
    rw [reps_ints k2] at k1
    exact main a ns ev (.inr k1.sq) h5 h6.symm
  | _ => cases hd
end
end DL
namespace DL
open L2 PyProof.Rows PySem PySem.Spec
variable [TabT]
/-! ### a op b op' c -/
section
variable {X : Cx} {C : Cfg} {a b c : Expr} {fa fb fc : ES D} {pos : Pos}
/-- on by what is told -/
def goOn {α : Type} (z : D) (f g : R α) : R α := match isB z with
  | some true => f
  | some false => g
  | none => .stuck
def eChain (o o' : D → D → ES D) (fa fb fc : ES D) : ES D := fun ε S => (fa ε S).bind fun x ε S => (fb ε S).bind fun y ε S => (o x y ε S).bind fun z ε S =>
  goOn z ((fc ε S).bind fun u ε S => o' y u ε S) (.ok (.bl false) ε S)
theorem chain_of {o o' : D → D → ES D} {r r' : R2} (ok : OpOk X C r o) (ok' : OpOk X C r' o') : ∀ σ H Q, tE X.K C (eChain o o' fa fb fc) σ H Q → tChain r r' (tE X.K C fa) (tE X.K C fb) (tE X.K C fc) σ H Q := fun σ H Q ⟨w, e1, e2, rl, q⟩ => by
  refine ⟨w, e1, e2, rl, POST.mono q.bind fun d w1 s1 m1 r1 ⟨_, _, _, q1⟩ v hv => ?_⟩
  refine ⟨w1, s1.trans e1, rfl, r1, POST.mono q1.bind fun d2 w2 s2 m2 r2 ⟨_, _, _, q2⟩ v2 hv2 => ?_⟩
  refine ok w2 v v2 d d2 _ r2 (Rep.mono (m2.le r1.r) d v hv) hv2 (POST.mono q2.bind fun d3 w3 s3 m3 r3 ⟨_, _, _, q3⟩ v3 hv3 => ?_)
  unfold goOn at q3
  cases hb : isB d3 with
  | none => rw [hb] at q3; exact q3.elim
  | some k =>
    have ed := isB_some hb
    subst ed
    rw [hb] at q3
    refine ⟨k, rep_bl hv3, ?_⟩
    cases k with
    | false => 
      rw [if_neg (by decide)]
      exact POST.now r3 q3 (.bl false) (by simp [DL.Rep])
    | true =>
      rw [if_pos rfl]
      refine ⟨w3, s3.trans (s2.trans (s1.trans e1)), rfl, r3, POST.mono q3.bind fun d4 w4 s4 m4 r4 ⟨_, _, _, q4⟩ v4 hv4 => ?_⟩
      exact ok' w4 v2 v4 d2 d4 Q r4 (Rep.mono ((m3.le r2.r).trans (m4.le r3.r)) d2 v2 hv2) hv4 q4
theorem de_chain {op op' : CmpOp} {r r' : R2} {o o' : D → D → ES D} (ho : OpR X (compareOp op) r) (ok : OpOk X C r o) (ho' : OpR X (compareOp op') r') (ok' : OpOk X C r' o') (ha : DE X C a fa) (hb : DE X C b fb) (hc : DE X C c fc)
    (hm : lastMarks [op, op'] [b, c] = false := by with_unfolding_all rfl) : DE X C (.Compare a [op, op'] [b, c] pos) (eChain o o' fa fb fc) := PE_imp (pe_chain ho ho' ha hb hc hm) (chain_of ok ok')
theorem dt_chain {op op' : CmpOp} {r r' : R2} {o o' : D → D → ES D} (ho : OpR X (compareOp op) r) (ok : OpOk X C r o) (ho' : OpR X (compareOp op') r') (ok' : OpOk X C r' o') (ha : DE X C a fa) (hb : DE X C b fb) (hc : DE X C c fc)
    (hm : lastMarks [op, op'] [b, c] = false := by with_unfolding_all rfl) : DT X C (.Compare a [op, op'] [b, c] pos) (tOf (eChain o o' fa fb fc)) := PT_imp (pt_chain ho ho' ha hb hc hm) (test_of (chain_of ok ok'))
end
end DL
namespace DL
open L2 PyProof.Rows PySem PySem.Spec
variable [TabT]
/-! ### fresh lists: a + b -/
section
variable {X : Cx} {C : Cfg} {a b : Expr} {fa fb : ES D} {pos : Pos}
def mAddL : D → D → Option MO
  | .lst xs, .lst ys => if xs.length + ys.length ≤ sizeLine then some (.lst (xs ++ ys)) else none
  | _, _ => none
def eAddF (fa fb : ES D) : ES MO := fun ε S => (fa ε S).bind fun x ε S => (fb ε S).bind fun y ε S => R.opt (mAddL x y) ε S
theorem df_addL (ha : DE X C a fa) (hb : DE X C b fb) : DF X C (.BinOp a .Add b pos) (eAddF fa fb) := PE_imp (pe_op op_addD ha hb) fun σ H Q ⟨w, e1, e2, rl, q⟩ => by
  subst e1; subst e2
  refine ⟨w, rfl, rfl, rl, POST.mono q.bind fun d w1 s1 m1 r1 ⟨_, _, _, q1⟩ v hv => ?_⟩
  refine ⟨w1, s1, rfl, r1, POST.mono q1.bind fun d2 w2 s2 m2 r2 ⟨_, _, _, q2⟩ v2 hv2 => ?_⟩
  obtain ⟨m, hm, q3⟩ := POST.opt q2
  have hv' := Rep.mono (m2.le r1.r) d v hv
  unfold mAddL at hm
  split at hm
  · obtain ⟨hl, e⟩ := ite_some hm
    subst e
    obtain ⟨x, vs, e3, h3, k3⟩ := rep_lst.mp hv'
    obtain ⟨y, ws, e4, h4, k4⟩ := rep_lst.mp hv2
    have l1 := k3.length
    have l2 := k4.length
    have so : SzOk (.lst (vs ++ ws)) := by
      show (vs ++ ws).length ≤ sizeLine
      rw [List.length_append]
      omega
    refine .inr (.inr (.inr ⟨x, y, vs, ws, e3, e4, h3.sq, h4.sq, by omega, fun p hp => ?_⟩))
    have q4 := POST.at q3 (Mono.lay (o := .lst (vs ++ ws)) hp) (r2.lay hp so) rfl rfl rfl
    exact q4 p (m1.dom p (m2.dom p hp)) (Lone.of r2 hp) ⟨_, upd_same, Reps.mono ((Mono.lay hp).le r2.r) _ _ (Reps.append k3 k4)⟩ (fun _ _ z => nomatch z)
  · cases hm
end

/-! ### no fuel is left -/
def sStuck : SS := fun _ _ => .stuck
theorem dss_stuck {X : Cx} {C : Cfg} {st : List Stmt} : DSs X C st sStuck := ⟨fun pins s σ H D I ⟨w, _, _, _, q⟩ => q.elim⟩
end DL
namespace DL
open L2 PyProof.Rows PySem PySem.Spec
/-! ### sorted(xs, key=lambda at: rows[at][0]) -/
/-- a table may have grown, all else stands -/
structure Grew (H H' : Hp) : Prop where
  ext : LamX.ExtN H H'
  dom : ∀ b, H' b = none → H b = none
  new : ∀ b o, H' b = some o → H b = some o ∨ (∃ ps qs, o = .tbl ps ∧ H b = some (.tbl qs)) ∨ ∃ φ, o = .ext φ
section
variable {X : Cx} {pins : List (Addr × Obj)} {σ : L2.St} {H : Hp} {s : Shared}
theorem lam_new {T : List (Addr × Str)} {c P : Addr} {q : Str} {params : Arguments} {body : Expr} {scope : Scope} {pos : Pos} {E Q : Value → Shared → Prop} (I : Inv X pins σ H s) (TB : LamX.TabB X.base X.mg c P) (hcode : X.env.code = .ref c)
    (eq : X.env.qual ++ "<lambda>" = q) (hm : (P, q) ∈ T) (hu : ∀ p ∈ T, p.1 = P → p.2 = q) (hT : LamX.Tabs T H) (hdef : defaultsOf params X.env = ([], [])) (hfree : ∀ y ∈ scope.names, y.2 = .free → ∃ c, X.env.cells.lookup y.1 = some c)
    (h : ∀ (f c' : Addr) (pm ctv : Value) (H1 : Hp) (s' : Shared), Inv X pins σ H1 s' → Grew H H1 → LamX.Tabs T H1 →
      s'.heap.get? f = some (PySem.W.kla_obj "<lambda>" q params body scope (cloFrom X.env.cells scope.names []) pm c' ctv) → H1 f = none → H1 c' = some (LamX.CodeO c' q) → Q (.ref f) s') :
    wpAny (model X.prog X.w) X.A (eval (.Lambda params body scope pos) X.env) Q E s := by
  subst eq
  obtain ⟨ps, tP, tOk, tAll⟩ := hT _ hm
  have atP : s.heap.get? P = some { cls := .none, data := .fields ps } := I.hok P _ tP
  refine PySem.W.kla_eval hdef ?_
  cases found : codeAmong pos ps.toList with
  | some cv =>
    obtain ⟨c', ec, hco⟩ := tAll pos cv found
    subst ec
    refine PySem.W.kla_makeFunctionHit (mg := X.mg) (c := c) (P := P) (ps := ps) (closure_ok hfree) I.ok.glob (I.mod.glob.keeps I.bk) hcode (TB.code.keeps I.bk) atP tOk found (TB.bm.keeps I.bk) fun ctv g tk old big => ?_
    refine h g.objs.size c' ((X.mg "__name__").getD .none) ctv H _ ?_ ⟨LamX.ExtN.refl H, fun _ z => z, fun _ _ z => .inl z⟩ hT (Heap.get?_push_size _ rfl) (I.hok.fresh big) hco
    exact I.kept fun b o e => Heap.get?_push_of_some _ (old b o e)
  | none =>
    refine PySem.W.kla_makeFunction (mg := X.mg) (c := c) (P := P) (ps := ps) (closure_ok hfree) I.ok.glob (I.mod.glob.keeps I.bk) hcode (TB.code.keeps I.bk) atP tOk found TB.gP (TB.bm.keeps I.bk) fun c' ctv g tk old big less rec tab => ?_
    obtain ⟨c2, oc, vs, t, e2, k1, k2, k3⟩ := rec
    cases e2
    have fresh : H c' = none := I.hok.fresh big
    have much : s.heap.objs.size ≤ g.objs.size := Nat.le_trans big (Nat.le_of_lt less)
    have J := LamX.inv_table (t' := tk) (more := #[rawInt pos.line, rawInt pos.col, .ref c']) (h' := g.push (PySem.W.kla_obj "<lambda>" (X.env.qual ++ "<lambda>") params body scope (cloFrom X.env.cells scope.names []) ((X.mg "__name__").getD .none) c' ctv)) I tP
      (fun b o hb e => Heap.get?_push_of_some _ (old b o hb e)) (Heap.get?_push_of_some _ tab) big ⟨oc, vs, t, Heap.get?_push_of_some _ k1, k2, k3⟩
    have far : ∀ b o, H b = some o → b ≠ c' := fun b o e => ne_of_none e fresh
    have ex : LamX.ExtN H (upd (upd H P (.tbl (ps ++ #[rawInt pos.line, rawInt pos.col, .ref c']))) c' (LamX.CodeO c' (X.env.qual ++ "<lambda>"))) := fun b o e n => by
      have z : b ≠ P := fun z => n ps (by rw [z, tP] at e; exact (Option.some.inj e).symm)
      rw [upd_ne (far b o e), upd_ne z]
      exact e
    have list : (ps ++ #[rawInt pos.line, rawInt pos.col, .ref c']).toList = ps.toList ++ [rawInt pos.line, rawInt pos.col, .ref c'] := by simp
    refine h g.objs.size c' ((X.mg "__name__").getD .none) ctv _ _ J ⟨ex, fun b z => ?_, fun b o z => ?_⟩ (fun p hp => ?_) (Heap.get?_push_size _ rfl) ?_ upd_same
    · by_cases e1 : b = c'
      · rw [e1, upd_same] at z; cases z
      · rw [upd_ne e1] at z
        by_cases e2 : b = P
        · rw [e2, upd_same] at z; cases z
        · rw [upd_ne e2] at z; exact z
    · by_cases e1 : b = c'
      · rw [e1, upd_same] at z
        exact .inr (.inr ⟨_, (Option.some.inj z).symm⟩)
      · rw [upd_ne e1] at z
        by_cases e2 : b = P
        · rw [e2, upd_same] at z
          exact .inr (.inl ⟨_, ps, (Option.some.inj z).symm, by rw [e2]; exact tP⟩)
        · rw [upd_ne e2] at z; exact .inl z
    · by_cases hb : p.1 = P
      · rw [hu p hp hb, hb]
        refine ⟨ps ++ #[rawInt pos.line, rawInt pos.col, .ref c'], by rw [upd_ne (far P _ tP), upd_same], by rw [list]; exact PySem.TriplesOk_snoc _ _ _ _ tOk, fun p' cv hcv => ?_⟩
        rw [list] at hcv
        rcases LamX.among_app _ tOk hcv with z | z
        · obtain ⟨c0, z1, z2⟩ := tAll p' cv z
          exact ⟨c0, z1, ex _ _ z2 LamX.codeO_ne⟩
        · exact ⟨c', z, upd_same⟩
      · obtain ⟨qs, a1, a2, a3⟩ := hT p hp
        refine ⟨qs, by rw [upd_ne (far _ _ a1), upd_ne hb]; exact a1, a2, fun p' cv hcv => ?_⟩
        obtain ⟨c0, z1, z2⟩ := a3 p' cv hcv
        exact ⟨c0, z1, ex _ _ z2 LamX.codeO_ne⟩
    · rw [upd_ne (Nat.ne_of_gt less), upd_ne (Nat.ne_of_gt (Nat.lt_of_lt_of_le (Heap.lt_size atP) much))]
      exact I.hok.fresh much
end
/-- the lambda's scope: names of its own that no one captures, captured ones that are known -/
structure LamP (sc scope : Scope) (r a : Str) : Prop where
  kind : scope.kind = .function
  co : scope.isCoroutine = false
  gen : scope.isGenerator = false
  cell : ∀ y ∈ scope.names, y.2 ≠ .cell
  free : ∀ y ∈ scope.names, y.2 = .free → sc.names.lookup y.1 = some .cell ∨ sc.names.lookup y.1 = some .free
  rows : scope.names.lookup r = some .free
  par : scope.names.lookup a = some .local
def lamPB (sc scope : Scope) (r a : Str) : Bool :=
  decide (scope.kind = .function) && !scope.isCoroutine && !scope.isGenerator && (scope.names.all fun y => !decide (y.2 = .cell) && (!decide (y.2 = .free) || decide (sc.names.lookup y.1 = some .cell) || decide (sc.names.lookup y.1 = some .free))) &&
    decide (scope.names.lookup r = some .free) && decide (scope.names.lookup a = some .local)
theorem lamP_by {sc scope : Scope} {r a : Str} (h : lamPB sc scope r a = true) : LamP sc scope r a := by
  unfold lamPB at h
  simp only [Bool.and_eq_true, Bool.or_eq_true, Bool.not_eq_true', decide_eq_true_eq, decide_eq_false_iff_not, List.all_eq_true] at h
  obtain ⟨⟨⟨⟨⟨h1, h2⟩, h3⟩, h4⟩, h5⟩, h6⟩ := h
  refine ⟨h1, h2, h3, fun y hy => (h4 y hy).1, fun y hy e => ?_, h5, h6⟩
  rcases (h4 y hy).2 with (z | z) | z
  · exact absurd e z
  · exact .inl z
  · exact .inr z
section
variable {X : Cx}
theorem LamP.has {scope : Scope} {r a : Str} (L : LamP X.env.scope scope r a) (ok : X.Ok) : ∀ y ∈ scope.names, y.2 = .free → ∃ c, X.env.cells.lookup y.1 = some c := fun y hy e => by
  rcases L.free y hy e with k | k
  · exact ok.has _ (.inl k)
  · exact ok.has _ (.inr k)
theorem clo_at {cells : List (Str × Addr)} {names : List (Str × NameKind)} {x : Str} {c : Addr} (hx : names.lookup x = some .free) (hc : cells.lookup x = some c) (hf : ∀ y ∈ names, y.2 = .free → ∃ c, cells.lookup y.1 = some c) : (cloFrom cells names []).lookup x = some c := by
  have hy : (x, NameKind.free) ∈ names := PySem.mem_of_lookup hx
  obtain ⟨c1, e1⟩ := mem_lookup (cloFrom_has (cells := cells) (acc := []) hy)
  rw [e1]
  rcases cloFrom_mem (PySem.mem_of_lookup e1) with hm | ⟨h1, h2⟩
  · cases hm
  · rw [h2, hc]; rfl
end
end DL
namespace DL
open L2 PyProof.Rows PySem PySem.Spec
/-- rows[i][0], as it lies -/
def KeyAt (rits : List Value) (h : Heap) (n k : Int) : Prop := ∃ (ra : Addr) (its : List Value) (t : Tok), atI rits n = some (.ref ra) ∧ IsTup h ra its.toArray ∧ its[0]? = some (.int k t) ∧ its.length ≤ sizeLine
theorem KeyAt.keeps {rits : List Value} {h h' : Heap} {n k : Int} (x : KeyAt rits h n k) (hk : ∀ b o, h.get? b = some o → h'.get? b = some o) : KeyAt rits h' n k := by
  obtain ⟨ra, its, t, a, b, c, d⟩ := x
  exact ⟨ra, its, t, a, b.keeps hk, c, d⟩
section
variable {P : Program} {w : World} {A : Around} {s : Shared}
/-- an item of a tuple -/
theorem tup_item {value slice : Expr} {t : Addr} {its : List Value} {i : Int} {u : Tok} {x : Value} {Q E : Value → Shared → Prop} (ht : IsTup s.heap t its.toArray) (hz : its.length ≤ sizeLine) (hx : atI its i = some x) (h : Q x s)
    (hs : subscripted slice false (.ref t) (.int i u) = operate [.ref t, .int i u] (getItem (.ref t) (.int i u))) : wpAny (model P w) A (subscriptTail value slice (.ref t) (.int i u)) Q E s := by
  obtain ⟨j, h1, h2, h3, h4, h5⟩ := atI_get hx
  have hn := line63
  exact subscriptTail_builtinR (x := x) ht.typeIs slot_tuple_getitem.lookup
    (getItem_tuple (j := j) (Q := fun r s' => r = x ∧ Q r s') ht (by omega) (by omega) (by rw [List.size_toArray]; exact h1) (by simpa using h2) ⟨rfl, h⟩) hs
theorem key_call {f c c' R : Addr} {q r a : Str} {pm ctv : Value} {params : Arguments} {scope sc : Scope} {clos : List (Str × Addr)} {rits : List Value} {n k : Int} {t : Tok} {j : Nat} {p1 p2 p3 p4 p5 : Pos}
    (ho : s.heap.get? f = some (PySem.W.kla_obj "<lambda>" q params (.Subscript (.Subscript (.Name r p1) (.Name a p2) p3) (.Constant (.int 0) j p4) p5) scope clos pm c' ctv)) (hcd : s.heap.CodeRec (.ref c') q) (lim : s.heap.NoLimit) (hroom : A.depth < recursionLimit)
    (L : LamP sc scope r a) (hbind : ∀ (b : Expr) (pm cv ctv v : Value), bindArgs (PySem.W.kla_fn "<lambda>" q params b scope clos pm cv ctv) ⟨[v], []⟩ = pure [(a, v)]) (hc : clos.lookup r = some c) (hcell : s.heap.IsCell c (some (.ref R))) (hR : IsTup s.heap R rits.toArray) (hz : rits.length ≤ sizeLine)
    (hk : KeyAt rits s.heap n k) (hdr : (r == ("__debug__" : Str)) = false) (hcr : (r == ("__classdict__" : Str)) = false) (hda : (a == ("__debug__" : Str)) = false) :
    wpAny (model P w) A (call (.ref f) [.int n t]) (PySem.W.KeyPure (.int k) s) (fun _ _ => False) s := by
  refine wpAny_call ?_
  refine PySem.W.kla_callFunE hroom ho rfl L.co L.gen rfl hcd ?_
  rw [hbind]
  refine wpAny_pure (wpAny_newFunctionEnv (fun y hy => L.cell y hy) (fun y hy => ?_) (fun h₁ hns hsb => ⟨lim.fresh _ hsb, ?_⟩) L.kind)
  · rw [List.mem_singleton.mp hy]
    exact L.par
  have kp : ∀ b o, s.heap.get? b = some o → h₁.get? b = some o := fun b o e => hsb.extBut b o (Nat.ne_of_lt (Heap.lt_size e)) (Heap.get?_push_of_some _ e)
  show codeAny _ _ (.expr _ (PySem.W.envX q scope s.heap.objs.size f (.ref c') clos)) _ _
  refine PySem.W.kla_codeExpr ?_
  obtain ⟨ra, its, t2, k1, k2, k3, k4⟩ := hk.keeps kp
  refine Subscript_ (Subscript_ (wpAny_Name (wpAny_loadName_free L.kind L.rows hc (hcell.keeps kp) ?_ hcr) hdr))
  refine wpAny_Name (wpAny_loadName_local (v := .int n t) L.kind L.par hns ?_ ?_) hda
  · show List.lookup a [(a, Value.int n t)] = some (.int n t)
    simp
  refine tup_item (hR.keeps kp) hz k1 ?_ (by with_unfolding_all rfl)
  refine wpAny_Constant_int ?_
  refine tup_item k2 k4 (by exact atI_nat (j := 0) k3) ?_ (by with_unfolding_all rfl)
  exact ⟨h₁, _, rfl, kp, .int k t2⟩
end
theorem sqL_grew {K : PySem.W.Frag} {H H' : Hp} {a : Addr} {xs : List V} (g : Grew H H') (h : SqL K H a xs) : SqL K H' a xs := by
  rcases h with (h | ⟨o, h⟩) | h
  · exact .inl (.inl (g.ext _ _ h fun ps z => by cases z))
  · exact .inl (.inr ⟨o, g.ext _ _ h fun ps z => by cases z⟩)
  · exact .inr h
theorem sqT_grew {K : PySem.W.Frag} {H H' : Hp} {a : Addr} {xs : List V} (g : Grew H H') (h : SqT K H a xs) : SqT K H' a xs := by
  rcases h with (h | ⟨o, h⟩) | h
  · exact .inl (.inl (g.ext _ _ h fun ps z => by cases z))
  · exact .inl (.inr ⟨o, g.ext _ _ h fun ps z => by cases z⟩)
  · exact .inr h
theorem each_zip : ∀ {xs : List V} {us : List Value} {ks : List Int}, Vals xs us → ks.length = xs.length → PySem.W.EachIs (fun (v : Value) (x : V × Int) => RelV x.1 v) us (xs.zip ks)
  | _, _, [], .nil, _ => .nil
  | _, _, [], .cons _ _, h => by simp at h
  | _, _, k :: ks, .nil, h => by simp at h
  | _, _, k :: ks, .cons r rs, h => .cons r (each_zip rs (by simpa using h))
theorem vals_each : ∀ {us : List Value} {bs : List (V × Int)}, PySem.W.EachIs (fun (v : Value) (x : V × Int) => RelV x.1 v) us bs → Vals (bs.map (·.1)) us
  | _, _, .nil => .nil
  | _, _, .cons r rs => .cons r (vals_each rs)
def sortKeys (xs : List V) (ks : List Int) : List V := ((xs.zip ks).mergeSort fun a b => decide (a.2 ≤ b.2)).map (·.1)
def tSortRows (K : PySem.W.Frag) (T : List (Addr × Str)) (jr : Nat) (te : TE) : TE := fun σ H Q => te σ H fun v H1 => ∃ (l R : Addr) (xs rs : List V) (ks : List Int), v = .ref l ∧ SqL K H1 l xs ∧ σ[jr]? = some (some (.ref R)) ∧ SqT K H1 R rs ∧ ks.length = xs.length ∧
  (∀ (i : Nat) (v : V) (k : Int), xs[i]? = some v → ks[i]? = some k → ∃ (n : Int) (ra : Addr) (row : List V), v = .int n ∧ atI rs n = some (.ref ra) ∧ SqT K H1 ra (.int k :: row)) ∧ LamX.Tabs T H1 ∧
  ∀ (H2 : Hp) (p : Addr), Grew H1 H2 → LamX.Tabs T H2 → H2 p = none → Q (.ref p) (upd H2 p (.lst (sortKeys xs ks)))
section
variable {X : Cx}
theorem pe_sortRows {T : List (Addr × Str)} {c P : Addr} {q r a : Str} {params : Arguments} {scope : Scope} {jr : Nat} {j : Nat} {p p1 p2 p3 p4 p5 lpos kpos pos : Pos} {e : Expr} {te : TE} (hg : Gl X "sorted") (hm : X.mg "sorted" = none) (TB : LamX.TabB X.base X.mg c P) (hcode : X.env.code = .ref c)
    (eq : X.env.qual ++ "<lambda>" = q) (hmT : (P, q) ∈ T) (hu : ∀ p ∈ T, p.1 = P → p.2 = q) (hr : Room 1 X.A) (L : LamP X.env.scope scope r a) (hdef : defaultsOf params X.env = ([], []))
    (hbind : ∀ (q : Str) (cl : List (Str × Addr)) (b : Expr) (pm cv ctv v : Value), bindArgs (PySem.W.kla_fn "<lambda>" q params b scope cl pm cv ctv) ⟨[v], []⟩ = pure [(a, v)]) (hN : X.N[jr]? = some r) (hce : X.env.scope.names.lookup r = some .cell)
    (ha : PE X e te) (he : starEach [e] X.env = (false, eval e X.env) :: starEach [] X.env) (hdr : (r == ("__debug__" : Str)) = false) (hcr : (r == ("__classdict__" : Str)) = false) (hda : (a == ("__debug__" : Str)) = false) :
    PE X (.Call (.Name "sorted" p) [e] [⟨some "key", .Lambda params (.Subscript (.Subscript (.Name r p1) (.Name a p2) p3) (.Constant (.int 0) j p4) p5) scope lpos, kpos⟩] pos) (tSortRows X.K T jr te) := by
  have he' : backTo pos (starEach [e] X.env) = (false, eval e X.env) :: backTo pos (starEach [] X.env) := by rw [he]; rfl
  refine ⟨fun pins s σ H Q I h => ?_⟩
  refine wpAny_Call_Name_kw (ld_blt I hg hm (by rfl) ?_)
  refine PyProof.Rows.callWith_kw ?_ he' (by rw [he']; rfl) rfl rfl
  rw [he']
  refine Calls.spliced_cons (thn (ha.run pins s σ H _ I h) fun u s1 ⟨v, H1, I1, r1, q1⟩ => Calls.spliced_nil ?_)
  obtain ⟨l, R, xs, rs, ks, ev, hl, hσ, hR, hlen, hkey, hT, fin⟩ := q1
  subst ev
  obtain rfl : u = Value.ref l := r1
  show wpAny _ _ (evalAll ((do let v ← eval _ X.env; standAt pos; pure v) :: [])) _ _ s1
  refine wpAny_evalAll_cons (wpAny_bind (lam_new I1 TB hcode eq hmT hu hT hdef (L.has I1.ok) fun f c' pm ctv H2 s2 I2 gr T2 hf hfn hco => wpAny_bind (wpAny_standAt (wpAny_pure (wpAny_evalAll_nil ?_)))))
  show wpAny (model X.prog X.w) X.A (call (.builtin "sorted") [.ref l] [(Str.ofString "key", .ref f)]) (EP X pins σ Q) X.xe s2
  obtain ⟨its, rv, pl, hz⟩ := I2.list (sqL_grew gr hl)
  obtain ⟨rits, rr, tR, hzR⟩ := I2.tuple (sqT_grew gr hR)
  obtain ⟨⟨oc, vs, t, g1, g2, g3⟩, _⟩ := I2.hok c' _ hco
  obtain ⟨m, hn, hloc⟩ := I2.loc
  obtain ⟨u, ru, lc⟩ := hloc jr r _ hN hσ (.inr (.inl hce))
  obtain rfl : u = Value.ref R := ru
  obtain ⟨c0, hc0, hcell⟩ : ∃ c0, X.env.cells.lookup r = some c0 ∧ s2.heap.IsCell c0 (some (.ref R)) := by
    rcases lc with ⟨hk, _⟩ | ⟨_, c0, hc0, hcell⟩
    · have hk : X.env.scope.names.lookup r = some .local := hk
      rw [hce] at hk; cases hk
    · exact ⟨c0, hc0, hcell⟩
  refine PySem.W.sorted_key_data (R := fun (v : Value) (x : V × Int) => RelV x.1 v) (bs := xs.zip ks) (b := false) (fun x => .int x.2) pl.isList (each_zip rv hlen) (fun d hd d' hd' => ?_) (.inr fun d hd => ?_) ?_ (fun x _ => ?_) (PyProof.Rows.ksk_s1 _ _) (fun _ => PyProof.Rows.ksk_l1 _ _) (fun x => PyProof.Rows.ksk_t1 f x) (fun v x hv hx h tk kp => ?_) (fun out ct h' tk kp _ at' lo eo => ?_)
  · obtain ⟨x, _, e1⟩ := List.mem_map.mp hd
    obtain ⟨y, _, e2⟩ := List.mem_map.mp hd'
    rw [← e1, ← e2]; rfl
  · obtain ⟨x, _, e1⟩ := List.mem_map.mp hd
    rw [← e1]
    exact ⟨(fun z => PyData.noConfusion z), (fun xs z => PyData.noConfusion z)⟩
  · rw [List.length_zip, hlen, Nat.min_self]; exact hz
  · have := hr.un
    show X.A.units + 2 + PyData.depth (.int x.2) < cLine
    simp only [PyData.depth]
    omega
  · obtain ⟨i, hi, ei⟩ := List.getElem_of_mem hx
    have hi2 := List.getElem?_eq_getElem hi
    rw [ei, List.getElem?_zip_eq_some] at hi2
    obtain ⟨n, ra, row, e1, e2, e3⟩ := hkey i x.1 x.2 hi2.1 hi2.2
    rw [e1] at hv
    obtain ⟨t0, rfl⟩ := hv
    refine key_call (s := { s2 with heap := h, toks := tk }) (kp _ _ hf) ⟨c', oc, vs, t, rfl, kp _ _ g1, g2, g3⟩ (I2.nolimit.keeps kp) ?_ L (fun b pm cv ctv v => hbind q _ b pm cv ctv v) (clo_at L.rows hc0 (L.has I2.ok)) (hcell.keeps kp) (tR.keeps kp) (by rw [← rr.length]; exact hzR) ?_ hdr hcr hda
    · have := hr.dp
      show X.A.depth < recursionLimit
      omega
    · obtain ⟨jt, z1, z2, z3, z4, z5⟩ := atI_get e2
      obtain ⟨w1, w2, w3⟩ := rr.get z2
      obtain rfl : w1 = Value.ref ra := w3
      obtain ⟨row', rw', tr, hzr⟩ := I2.tuple (sqT_grew gr e3)
      obtain ⟨y1, y2, y3⟩ := rw'.get (i := 0) (x := .int x.2) rfl
      obtain ⟨t3, rfl⟩ := y3
      refine ⟨ra, row', t3, ?_, tr.keeps kp, y2, by rw [← rw'.length]; exact hzr⟩
      have hrl := rr.length
      unfold atI at e2 ⊢
      rw [show rits.length = rs.length from hrl.symm]
      cases hx2 : ixN rs.length n with
      | none => rw [hx2] at e2; cases e2
      | some jj =>
        rw [hx2] at e2
        have e2 : rs[jj]? = some (.ref ra) := e2
        obtain ⟨w4, w5, w6⟩ := rr.get e2
        obtain rfl : w4 = Value.ref ra := w6
        exact w5
  · rw [PySem.W.dataLe_int] at eo
    have vo := vals_each eo
    have fr : H2 (s2.heap.objs.size + 1) = none := I2.hok.fresh (Nat.le_succ _)
    refine ⟨.ref _, upd H2 (s2.heap.objs.size + 1) (.lst (sortKeys xs ks)), I2.laid (t' := tk) kp (Nat.le_succ _) ⟨?_, out, ct, vo, at'⟩, rfl, fin H2 _ gr T2 fr⟩
    show (((xs.zip ks).mergeSort fun a b => decide (a.2 ≤ b.2)).map (·.1)).length ≤ sizeLine
    rw [vo.length, lo, List.length_zip, hlen, Nat.min_self]
    exact hz
end
end DL
namespace DL
open L2 PyProof.Rows PySem PySem.Spec
variable [TabT]
def keysAt (rs : List D) : List D → Option (List Int)
  | [] => some []
  | .int n :: ds => match atI rs n with
    | some (.tup (.int k :: _)) => (keysAt rs ds).map (k :: ·)
    | _ => none
  | _ => none
def sortKD (ds : List D) (ks : List Int) : List D := ((ds.zip ks).mergeSort fun a b => decide (a.2 ≤ b.2)).map (·.1)
theorem keysAt_len {rs : List D} : ∀ {ds : List D} {ks : List Int}, keysAt rs ds = some ks → ks.length = ds.length
  | [], ks, h => by cases h; rfl
  | .int n :: ds, ks, h => by
    unfold keysAt at h
    split at h
    · cases hk : keysAt rs ds with
      | none => rw [hk] at h; cases h
      | some ks' =>
        rw [hk] at h
        cases h
        simp [keysAt_len hk]
    · cases h
  | .non :: ds, ks, h => by cases h
  | .bl _ :: ds, ks, h => by cases h
  | .str _ :: ds, ks, h => by cases h
  | .tup _ :: ds, ks, h => by cases h
  | .lst _ :: ds, ks, h => by cases h
  | .dic _ _ _ :: ds, ks, h => by cases h
  | .ref _ :: ds, ks, h => by cases h
theorem keysAt_at {rs : List D} : ∀ {ds : List D} {ks : List Int} {i : Nat} {d : D} {k : Int}, keysAt rs ds = some ks → ds[i]? = some d → ks[i]? = some k → ∃ (n : Int) (tl : List D), d = .int n ∧ atI rs n = some (.tup (.int k :: tl))
  | [], ks, i, d, k, h, h1, h2 => by simp at h1
  | .int n :: ds, ks, i, d, k, h, h1, h2 => by
    unfold keysAt at h
    split at h
    · rename_i k0 tl e
      cases hk : keysAt rs ds with
      | none => rw [hk] at h; cases h
      | some ks' =>
        rw [hk] at h
        cases h
        cases i with
        | zero =>
          cases h1; cases h2
          exact ⟨n, tl, rfl, e⟩
        | succ i => exact keysAt_at hk (by simpa using h1) (by simpa using h2)
    · cases h
  | .non :: ds, ks, i, d, k, h, _, _ => by cases h
  | .bl _ :: ds, ks, i, d, k, h, _, _ => by cases h
  | .str _ :: ds, ks, i, d, k, h, _, _ => by cases h
  | .tup _ :: ds, ks, i, d, k, h, _, _ => by cases h
  | .lst _ :: ds, ks, i, d, k, h, _, _ => by cases h
  | .dic _ _ _ :: ds, ks, i, d, k, h, _, _ => by cases h
  | .ref _ :: ds, ks, i, d, k, h, _, _ => by cases h
theorem zip_left : ∀ {ds : List D} {xs : List V} {ks : List Int}, xs.length = ds.length → ((ds.zip xs).zip ks).map (fun t => (t.1.1, t.2)) = ds.zip ks
  | [], [], ks, _ => by simp
  | d :: ds, [], ks, h => by simp at h
  | [], x :: xs, ks, h => by simp at h
  | d :: ds, x :: xs, [], h => by simp
  | d :: ds, x :: xs, k :: ks, h => by
    have := zip_left (ks := ks) (show xs.length = ds.length by simpa using h)
    simp only [List.zip_cons_cons, List.map_cons, this]
theorem zip_right : ∀ {ds : List D} {xs : List V} {ks : List Int}, xs.length = ds.length → ((ds.zip xs).zip ks).map (fun t => (t.1.2, t.2)) = xs.zip ks
  | [], [], ks, _ => by simp
  | d :: ds, [], ks, h => by simp at h
  | [], x :: xs, ks, h => by simp at h
  | d :: ds, x :: xs, [], h => by simp
  | d :: ds, x :: xs, k :: ks, h => by
    have := zip_right (ks := ks) (show xs.length = ds.length by simpa using h)
    simp only [List.zip_cons_cons, List.map_cons, this]
section
variable {K : PySem.W.Frag} {Z : Addr → Prop} {ρ : List Addr} {H : Hp}
theorem reps_pairs : ∀ l : List ((D × V) × Int), (∀ t ∈ l, Rep K Z ρ H t.1.1 t.1.2) → Reps K Z ρ H (l.map (·.1.1)) (l.map (·.1.2))
  | [], _ => by show DL.Reps K Z ρ H [] []; simp only [DL.Reps]
  | t :: l, h => by
    show DL.Reps K Z ρ H (t.1.1 :: l.map (·.1.1)) (t.1.2 :: l.map (·.1.2))
    simp only [DL.Reps]
    exact ⟨t.1.2, _, rfl, h t List.mem_cons_self, reps_pairs l fun x hx => h x (List.mem_cons_of_mem _ hx)⟩
theorem reps_zip {ds : List D} {xs : List V} (h : Reps K Z ρ H ds xs) : ∀ p ∈ ds.zip xs, Rep K Z ρ H p.1 p.2 := fun p hp => by
  obtain ⟨i, hi, e⟩ := List.getElem_of_mem hp
  have hi2 := List.getElem?_eq_getElem hi
  rw [e, List.getElem?_zip_eq_some] at hi2
  obtain ⟨v, k1, k2⟩ := Reps.get h hi2.1
  rw [hi2.2] at k1
  cases k1
  exact k2
theorem reps_sort {ds : List D} {xs : List V} {ks : List Int} (h : Reps K Z ρ H ds xs) : Reps K Z ρ H (sortKD ds ks) (sortKeys xs ks) := by
  have hl : xs.length = ds.length := Reps.length h
  have e1 : sortKD ds ks = (((ds.zip xs).zip ks).mergeSort fun a b => decide (a.2 ≤ b.2)).map (·.1.1) := by
    unfold sortKD
    rw [← zip_left hl, ← List.map_mergeSort (f := fun t : (D × V) × Int => (t.1.1, t.2)) (r := fun a b => decide (a.2 ≤ b.2)) (fun _ _ _ _ => rfl), List.map_map]
    rfl
  have e2 : sortKeys xs ks = (((ds.zip xs).zip ks).mergeSort fun a b => decide (a.2 ≤ b.2)).map (·.1.2) := by
    unfold sortKeys
    rw [← zip_right hl, ← List.map_mergeSort (f := fun t : (D × V) × Int => (t.1.2, t.2)) (r := fun a b => decide (a.2 ≤ b.2)) (fun _ _ _ _ => rfl), List.map_map]
    rfl
  rw [e1, e2]
  refine reps_pairs _ fun t ht => ?_
  have ht := List.mem_mergeSort.mp ht
  exact reps_zip h t.1 (List.of_mem_zip ht).1
end
/-- behind the making of a lambda -/
theorem RelC.grew {K : PySem.W.Frag} {C : Cfg} {w : Ws} (r : RelC K C w) {H' : Hp} (g : Grew w.H H') (t : LamX.Tabs TabT.T H') : Mono w { w with H := H' } ∧ RelC K C { w with H := H' } := by
  have nt : ∀ {o : HO}, NT o → ∀ ps, o ≠ .tbl ps := fun {o} n ps z => by subst z; exact n
  have m : Mono w { w with H := H' } := ⟨fun _ h => h, ⟨[], by simp⟩, fun b o h _ _ n => g.ext b o h (nt n), fun _ h => .inl h, fun _ h => .inl h, fun _ h => .inl h, g.dom⟩
  refine ⟨m, r.r.step (m.le r.r) rfl rfl rfl rfl (fun a h => .inl h) (fun a o hp h => ?_), r.m.trans m, fun a o h => ?_, fun a o h n => ?_, fun a x => ?_, t⟩
  · refine g.ext a o h (nt ?_)
    rcases hp with hp | hp
    · obtain ⟨n, hn, e⟩ := List.getElem_of_mem hp
      have hs : n < w.S.length := by rw [r.r.slen]; exact hn
      obtain ⟨u, e2, n2⟩ := (r.r.sto n w.S[n] a (List.getElem?_eq_getElem hs) (by rw [List.getElem?_eq_getElem hn, e])).mt
      rw [h] at e2; cases e2
      exact n2
    · obtain ⟨i, x, e, s⟩ := hp
      obtain ⟨q, s', ho, _⟩ := r.r.own i x e
      rw [s] at s'; cases s'
      obtain ⟨u, e2, n2⟩ := ho.mt
      rw [h] at e2; cases e2
      exact n2
  · rcases g.new a o h with z | ⟨ps, qs, z, _⟩ | ⟨φ, z⟩
    · exact r.sz a o z
    · rw [z]; trivial
    · rw [z]; trivial
  · rcases g.new a o h with z | ⟨ps, qs, z, z2⟩ | ⟨φ, z⟩
    · exact r.sz.new a o z n
    · exact (r.sz.new a _ z2 n).elim
    · rw [z]; trivial
  · cases h : H' a with
    | some o => exact ⟨o, h⟩
    | none =>
      obtain ⟨o, z⟩ := r.sz.old a x
      have h2 := g.dom a h
      rw [h2] at z; cases z
def eSortRows (jr : Nat) (f : ES D) : ES D := fun ε S => (f ε S).bind fun d ε S => match d with
  | .lst ds => (match ε[jr]? with
    | some (some (.val (.tup rs))) => R.opt ((keysAt rs ds).map fun ks => .lst (sortKD ds ks)) ε S
    | _ => .stuck)
  | _ => .stuck
section
variable {X : Cx} {C : Cfg} {e : Expr} {f : ES D}
theorem de_sortRows {c P : Addr} {q r a : Str} {params : Arguments} {scope : Scope} (jr : Nat) {j : Nat} {p p1 p2 p3 p4 p5 lpos kpos pos : Pos} (hm : X.mg "sorted" = none) (TB : LamX.TabB X.base X.mg c P) (hcode : X.env.code = .ref c)
    (eq : X.env.qual ++ "<lambda>" = q) (hmT : (P, q) ∈ TabT.T) (hu : ∀ p ∈ TabT.T, p.1 = P → p.2 = q) (hr : Room 1 X.A) (L : LamP X.env.scope scope r a) (hdef : defaultsOf params X.env = ([], []))
    (hbind : ∀ (q : Str) (cl : List (Str × Addr)) (b : Expr) (pm cv ctv v : Value), bindArgs (PySem.W.kla_fn "<lambda>" q params b scope cl pm cv ctv) ⟨[v], []⟩ = pure [(a, v)]) (hN : X.N[jr]? = some r) (hce : X.env.scope.names.lookup r = some .cell)
    (ha : DE X C e f) (hg : Gl X "sorted" := by rfl) (he : starEach [e] X.env = (false, eval e X.env) :: starEach [] X.env := by rfl) (hdr : (r == ("__debug__" : Str)) = false := by decide) (hcr : (r == ("__classdict__" : Str)) = false := by decide) (hda : (a == ("__debug__" : Str)) = false := by decide) :
    DE X C (.Call (.Name "sorted" p) [e] [⟨some "key", .Lambda params (.Subscript (.Subscript (.Name r p1) (.Name a p2) p3) (.Constant (.int 0) j p4) p5) scope lpos, kpos⟩] pos) (eSortRows jr f) :=
  PE_imp (pe_sortRows hg hm TB hcode eq hmT hu hr L hdef hbind hN hce ha he hdr hcr hda) fun σ H Q ⟨w, e1, e2, rl, q⟩ => by
    refine ⟨w, e1, e2, rl, POST.mono (POST.bind q) fun d w1 s1 m1 r1 ⟨_, _, _, q1⟩ v hv => ?_⟩
    cases d with
    | lst ds =>
      dsimp only at q1
      split at q1
      · rename_i rs hε
        obtain ⟨d', hd, q1⟩ := POST.opt q1
        cases hk : keysAt rs ds with
        | none => rw [hk] at hd; cases hd
        | some ks =>
          rw [hk] at hd
          cases hd
          obtain ⟨l, xs, ev, fz, hr⟩ := rep_lst.mp hv
          obtain ⟨u, hσ, hu2⟩ := r1.r.val jr _ hε
          obtain ⟨R, vs, eu, hT, hrs⟩ := rep_tup.mp hu2
          subst eu
          have hlx := Reps.length hr
          refine ⟨l, R, xs, vs, ks, ev, fz.sq, by rw [← e1, ← s1]; exact hσ, hT.sq, by rw [keysAt_len hk, hlx], fun i x k h1 h2 => ?_, r1.sz.tb, fun H2 p g t2 hp => ?_⟩
          · obtain ⟨l1, e3⟩ := List.getElem?_eq_some_iff.mp h1
            have hds := List.getElem?_eq_getElem (show i < ds.length by rw [← hlx]; exact l1)
            obtain ⟨n, tl, e4, e5⟩ := keysAt_at hk hds h2
            obtain ⟨x', e6, e7⟩ := Reps.get hr hds
            rw [h1] at e6; cases e6
            rw [e4] at e7
            obtain ⟨y, e8, e9⟩ := reps_at hrs e5
            obtain ⟨ra, row, e10, e11, e12⟩ := rep_tup.mp e9
            subst e10
            simp only [DL.Reps] at e12
            obtain ⟨z, row', e13, e14, _⟩ := e12
            have e14 := rep_int.mp e14
            rw [e13, e14] at e11
            exact ⟨n, ra, row', rep_int.mp e7, e8, e11.sq⟩
          · obtain ⟨m2, r2⟩ := r1.grew g t2
            have hz : SzOk (.lst (sortKeys xs ks)) := by
              show (((xs.zip ks).mergeSort fun a b => decide (a.2 ≤ b.2)).map (·.1)).length ≤ sizeLine
              rw [List.length_map, List.length_mergeSort, List.length_zip]
              have := r1.fzLen fz
              omega
            obtain ⟨m3, r3⟩ := RelC.gr r2 (H' := upd H2 p (.lst (sortKeys xs ks))) (N := fun a => a = p) (Same.lay hp) (r2.sz.lay hp hz) (fun a z => by subst z; exact ⟨hp, _, upd_same⟩)
            refine POST.at q1 (m2.trans m3) r3 rfl rfl rfl (.ref p) (rep_lst.mpr ⟨p, _, rfl, .inl ⟨.inr rfl, upd_same⟩, ?_⟩)
            exact reps_sort (Reps.mono ((m2.trans m3).le r1.r) ds xs hr)
      · exact q1.elim
    | _ => exact q1.elim
end
end DL
namespace DL
open L2 PyProof.Rows PySem PySem.Spec
variable [TabT]
/-! ### fresh lists: a * n, list(range(n)) -/
section
variable {X : Cx} {C : Cfg} {a b : Expr} {fa fb : ES D} {p pos pos2 : Pos}
def mRepL : D → D → Option MO
  | .lst xs, .int k => if decide (-9223372036854775808 ≤ k) && decide (k < 9223372036854775808) && decide (xs.length * k.toNat ≤ sizeLine) then some (.lst (List.replicate k.toNat xs).flatten) else none
  | _, _ => none
def eRepF (fa fb : ES D) : ES MO := fun ε S => (fa ε S).bind fun x ε S => (fb ε S).bind fun y ε S => R.opt (mRepL x y) ε S
theorem df_repL (ha : DE X C a fa) (hb : DE X C b fb) : DF X C (.BinOp a .Mult b pos) (eRepF fa fb) := PE_imp (pe_op op_repS ha hb) fun σ H Q ⟨w, e1, e2, rl, q⟩ => by
  subst e1; subst e2
  refine ⟨w, rfl, rfl, rl, POST.mono q.bind fun d w1 s1 m1 r1 ⟨_, _, _, q1⟩ v hv => ?_⟩
  refine ⟨w1, s1, rfl, r1, POST.mono q1.bind fun d2 w2 s2 m2 r2 ⟨_, _, _, q2⟩ v2 hv2 => ?_⟩
  obtain ⟨m, hm, q3⟩ := POST.opt q2
  have hv' := Rep.mono (m2.le r1.r) d v hv
  unfold mRepL at hm
  split at hm
  · rename_i xs k _ _
    obtain ⟨hl, e⟩ := ite_some hm
    subst e
    simp only [Bool.and_eq_true, decide_eq_true_eq] at hl
    obtain ⟨x, vs, e3, h3, k3⟩ := rep_lst.mp hv'
    have e4 := rep_int.mp hv2
    have l1 := k3.length
    have so : SzOk (.lst (List.replicate k.toNat vs).flatten) := by
      show ((List.replicate k.toNat vs).flatten).length ≤ sizeLine
      rw [PyProof.Rows.lm_len_rep_flat, Nat.mul_comm, l1]
      exact hl.2
    refine ⟨x, k, vs, e3, e4, h3.sq, hl.1.1, hl.1.2, by rw [l1]; exact hl.2, fun p hp => ?_⟩
    have q4 := POST.at q3 (Mono.lay (o := .lst (List.replicate k.toNat vs).flatten) hp) (r2.lay hp so) rfl rfl rfl
    exact q4 p (m1.dom p (m2.dom p hp)) (Lone.of r2 hp) ⟨_, upd_same, Reps.mono ((Mono.lay hp).le r2.r) _ _ (Reps.rep k3 _)⟩ (fun _ _ z => nomatch z)
  · cases hm
theorem reps_rgV {K : PySem.W.Frag} {Z : Addr → Prop} {ρ : List Addr} {H : Hp} (i : Int) (n : Nat) : Reps K Z ρ H (rngD i n) ((List.range n).map fun k => V.int (i + (k : Nat))) := by
  unfold rngD
  generalize List.range n = l
  induction l with
  | nil => show DL.Reps K Z ρ H [] []; simp only [DL.Reps]
  | cons k l ih =>
    show DL.Reps K Z ρ H (.int (i + (k : Nat)) :: _) (V.int (i + (k : Nat)) :: _)
    simp only [DL.Reps]
    exact ⟨_, _, rfl, by simp only [DL.Rep], ih⟩
def mRng1 : D → Option MO
  | .int n => if decide (-4611686018427387904 ≤ n) && decide (n < 4611686018427387904) && decide (n.toNat ≤ 16777216) then some (.lst (rngD 0 n.toNat)) else none
  | _ => none
def eRngF (fa : ES D) : ES MO := fun ε S => (fa ε S).bind fun x ε S => R.opt (mRng1 x) ε S
theorem df_listRange (hc : X.calm = true) (ha : DE X C a fa) (m1 : X.mg "list" = none) (m2 : X.mg "range" = none) (g1 : Gl X "list" := by rfl) (g2 : Gl X "range" := by rfl) (s1 : starEach [a] X.env = (false, eval a X.env) :: starEach [] X.env := by rfl)
    (s2 : starEach [.Call (.Name "range" p2) [a] [] pos2] X.env = (false, eval (.Call (.Name "range" p2) [a] [] pos2) X.env) :: starEach [] X.env := by rfl) :
    DF X C (.Call (.Name "list" p) [.Call (.Name "range" p2) [a] [] pos2] [] pos) (eRngF fa) := PE_imp (pe_listRg hc g1 m1 (prg_1 g2 m2 ha s1) s2) fun σ H Q ⟨w, e1, e2, rl, q⟩ => by
  subst e1; subst e2
  refine ⟨w, rfl, rfl, rl, POST.mono q.bind fun d w1 s1 m1 r1 ⟨_, _, _, q1⟩ v hv => ?_⟩
  obtain ⟨m, hm, q2⟩ := POST.opt q1
  unfold mRng1 at hm
  split at hm
  · rename_i n _
    obtain ⟨hl, e⟩ := ite_some hm
    subst e
    simp only [Bool.and_eq_true, decide_eq_true_eq] at hl
    have e4 := rep_int.mp hv
    have en : ((n : Int) - 0).toNat = n.toNat := by omega
    refine ⟨n, e4, ⟨by decide, by decide, by omega, by omega, by rw [en]; exact hl.2⟩, fun p hp => ?_⟩
    have so : SzOk (.lst (rgV 0 n)) := by
      show (rgV 0 n).length ≤ sizeLine
      rw [rgV_length, en, sizeLine_eq]
      exact hl.2
    have q4 := POST.at q2 (Mono.lay (o := .lst (rgV 0 n)) hp) (r1.lay hp so) rfl rfl rfl
    refine q4 p (m1.dom p hp) (Lone.of r1 hp) ⟨_, upd_same, ?_⟩ (fun _ _ z => nomatch z)
    have := reps_rgV (K := X.K) (Z := (w1.lay p (.lst (rgV 0 n))).Z) (ρ := w1.ρ) (H := upd w1.H p (.lst (rgV 0 n))) 0 n.toNat
    unfold rgV at this ⊢
    rw [en] at this ⊢
    exact this
  · cases hm
end
/-! ### all(xs) by the items' truth -/
def truD : D → Bool
  | .non => false
  | .bl b => b
  | .int i => i != 0
  | .str x => (x.length : Int) != 0
  | .tup xs => !xs.isEmpty
  | .lst xs => !xs.isEmpty
  | _ => true
def shortD : D → Bool
  | .str x => decide (x.length ≤ sizeLine)
  | .tup xs => decide (xs.length ≤ sizeLine)
  | .lst xs => decide (xs.length ≤ sizeLine)
  | _ => true
theorem toPys_nil : ∀ xs : List D, (toPys xs).isEmpty = xs.isEmpty
  | [] => by simp [toPys]
  | _ :: _ => by simp [toPys]
theorem toPys_len : ∀ xs : List D, (toPys xs).length = xs.length
  | [] => by simp [toPys]
  | _ :: xs => by simp [toPys, toPys_len xs]
theorem truthy_toPy {n : Nat} {d : D} (l : lay n d = true) : (toPy d).truthy = truD d := by
  cases d with
  | tup xs => simp only [toPy, PyData.truthy, truD, toPys_nil]
  | lst xs => simp only [toPy, PyData.truthy, truD, toPys_nil]
  | dic t ks vs => cases n <;> simp [lay] at l
  | ref k => cases n <;> simp [lay] at l
  | _ => simp only [toPy, PyData.truthy, truD]
theorem fits_toPy {d : D} (h : shortD d = true) : (toPy d).fits63 := by
  have big : (sizeLine : Int) < 2 ^ 63 := by
    rw [sizeLine_eq]; decide
  cases d with
  | str x =>
    have h := of_decide_eq_true (show decide (x.length ≤ sizeLine) = true from h)
    simp only [toPy, PyData.fits63]
    omega
  | tup xs =>
    have h := of_decide_eq_true (show decide (xs.length ≤ sizeLine) = true from h)
    simp only [toPy, PyData.fits63, toPys_len]
    omega
  | lst xs =>
    have h := of_decide_eq_true (show decide (xs.length ≤ sizeLine) = true from h)
    simp only [toPy, PyData.fits63, toPys_len]
    omega
  | _ => simp only [toPy, PyData.fits63]
mutual
theorem plain_toPy : ∀ (n : Nat) (d : D), lay n d = true → (toPy d).plain = true
  | n, .non, _ => by simp [toPy, PyData.plain]
  | n, .bl _, _ => by simp [toPy, PyData.plain]
  | n, .int _, _ => by simp [toPy, PyData.plain]
  | n, .str _, _ => by simp [toPy, PyData.plain]
  | 0, .tup _, l => by simp [lay] at l
  | n + 1, .tup ds, l => by
    simp only [lay] at l
    simp only [toPy, PyData.plain]
    exact plains_toPy n ds l
  | 0, .lst _, l => by simp [lay] at l
  | n + 1, .lst ds, l => by
    simp only [lay] at l
    simp only [toPy, PyData.plain]
    exact plains_toPy n ds l
  | n, .dic _ _ _, l => by cases n <;> simp [lay] at l
  | n, .ref _, l => by cases n <;> simp [lay] at l
theorem plains_toPy : ∀ (n : Nat) (ds : List D), lays n ds = true → PyData.plainAll (toPys ds) = true
  | _, [], _ => by simp [toPys, PyData.plainAll]
  | n, d :: ds, l => by
    simp only [lays, Bool.and_eq_true] at l
    simp only [toPys, PyData.plainAll, Bool.and_eq_true]
    exact ⟨plain_toPy n d l.1, plains_toPy n ds l.2⟩
end
theorem all_toPys : ∀ {n : Nat} {ds : List D}, lays n ds = true → (toPys ds).all PyData.truthy = ds.all truD
  | _, [], _ => by simp [toPys]
  | n, d :: ds, l => by
    simp only [lays, Bool.and_eq_true] at l
    simp only [toPys, List.all_cons, truthy_toPy l.1, all_toPys l.2]
theorem any_toPys : ∀ {n : Nat} {ds : List D}, lays n ds = true → (toPys ds).any PyData.truthy = ds.any truD
  | _, [], _ => by simp [toPys]
  | n, d :: ds, l => by
    simp only [lays, Bool.and_eq_true] at l
    simp only [toPys, List.any_cons, truthy_toPy l.1, any_toPys l.2]
theorem fits_mem : ∀ {ds : List D}, ds.all shortD = true → ∀ x ∈ toPys ds, x.fits63
  | [], _, x, hx => by simp [toPys] at hx
  | d :: ds, h, x, hx => by
    simp only [List.all_cons, Bool.and_eq_true] at h
    simp only [toPys, List.mem_cons] at hx
    rcases hx with e | hx
    · rw [e]; exact fits_toPy h.1
    · exact fits_mem h.2 x hx
/-- all(xs) -/
def rAllD (K : PySem.W.Frag) (ev : List D → Bool) : List V → Hp → VK → Prop := fun vs H Q => ∃ (a : Addr) (ds : List D) (xs : List V) (Z : Addr → Prop) (ρ : List Addr), vs = [.ref a] ∧ (SqL K H a xs ∨ SqT K H a xs) ∧ Reps K Z ρ H ds xs ∧ lays 16 ds = true ∧ ds.all shortD = true ∧ Q (.bl (ev ds)) H
theorem call_allD {X : Cx} (hc : X.calm = true) : CallR X (.builtin "all") (rAllD X.K fun ds => ds.all truD) := by
  intro pins s σ H us vals Q I r h
  obtain ⟨a, ds, xs, Z, ρ, rfl, hq, hr, hl, hs, q⟩ := h
  rw [Vals.ref1 r]
  rcases hq with hq | hq
  · obtain ⟨its, rv, pl, hz⟩ := I.list hq
    obtain ⟨as, ra⟩ := Dp.readsAll I (toPys ds) xs its (Reps.dp 16 ds xs hl hr) rv
    refine PySem.W.all_list_data (I.ok.hd hc) pl.isList (by simpa using ra) (plains_toPy 16 ds hl) (fits_mem hs) fun h' tk hk => ?_
    exact ⟨.bl _, H, I.kept hk, by rw [all_toPys hl]; rfl, q⟩
  · obtain ⟨its, rv, pl, hz⟩ := I.tuple hq
    obtain ⟨as, ra⟩ := Dp.readsAll I (toPys ds) xs its (Reps.dp 16 ds xs hl hr) rv
    refine PySem.W.all_tuple_data (I.ok.hd hc) pl (by simpa using ra) (plains_toPy 16 ds hl) (fits_mem hs) fun h' tk hk => ?_
    exact ⟨.bl _, H, I.kept hk, by rw [all_toPys hl]; rfl, q⟩
theorem call_anyD {X : Cx} (hc : X.calm = true) : CallR X (.builtin "any") (rAllD X.K fun ds => ds.any truD) := by
  intro pins s σ H us vals Q I r h
  obtain ⟨a, ds, xs, Z, ρ, rfl, hq, hr, hl, hs, q⟩ := h
  rw [Vals.ref1 r]
  rcases hq with hq | hq
  · obtain ⟨its, rv, pl, hz⟩ := I.list hq
    obtain ⟨as, ra⟩ := Dp.readsAll I (toPys ds) xs its (Reps.dp 16 ds xs hl hr) rv
    refine PySem.W.any_list_data (I.ok.hd hc) pl.isList (by simpa using ra) (plains_toPy 16 ds hl) (fits_mem hs) fun h' tk hk => ?_
    exact ⟨.bl _, H, I.kept hk, by rw [any_toPys hl]; rfl, q⟩
  · obtain ⟨its, rv, pl, hz⟩ := I.tuple hq
    obtain ⟨as, ra⟩ := Dp.readsAll I (toPys ds) xs its (Reps.dp 16 ds xs hl hr) rv
    refine PySem.W.any_tuple_data (I.ok.hd hc) pl (by simpa using ra) (plains_toPy 16 ds hl) (fits_mem hs) fun h' tk hk => ?_
    exact ⟨.bl _, H, I.kept hk, by rw [any_toPys hl]; rfl, q⟩
def dTruths (ev : List D → Bool) : List D → Option D
  | [.lst ds] => if lays 16 ds && ds.all shortD then some (.bl (ev ds)) else none
  | [.tup ds] => if lays 16 ds && ds.all shortD then some (.bl (ev ds)) else none
  | _ => none
abbrev dAllT := dTruths fun ds => ds.all truD
abbrev dAnyT := dTruths fun ds => ds.any truD
theorem ok_truths {K : PySem.W.Frag} {ev : List D → Bool} : CallG K (rAllD K ev) (dTruths ev) := fun Z ρ H xs ds d Q sz hx hd gr => by
  unfold dTruths at hd
  split at hd
  · obtain ⟨hl, e⟩ := ite_some hd
    subst e
    rw [Bool.and_eq_true] at hl
    obtain ⟨v, rfl, hv⟩ := reps1 hx
    obtain ⟨a, vs, e, k1, k2⟩ := rep_lst.mp hv
    subst e
    exact ⟨a, _, vs, Z, ρ, rfl, .inl k1.sq, k2, hl.1, hl.2, gr.now sz (by simp)⟩
  · obtain ⟨hl, e⟩ := ite_some hd
    subst e
    rw [Bool.and_eq_true] at hl
    obtain ⟨v, rfl, hv⟩ := reps1 hx
    obtain ⟨a, vs, e, k1, k2⟩ := rep_tup.mp hv
    subst e
    exact ⟨a, _, vs, Z, ρ, rfl, .inr k1.sq, k2, hl.1, hl.2, gr.now sz (by simp)⟩
  · cases hd
end DL
namespace DL
open L2 PyProof.Rows PySem PySem.Spec
variable [TabT]
/-! ### min(xs) of ints -/
def minI (ns : List Int) : Int := -maxI (ns.map fun x => -x)
theorem minI_spec {ns : List Int} (h : 0 < ns.length) : minI ns ∈ ns ∧ ∀ y ∈ ns, minI ns ≤ y := by
  obtain ⟨h1, h2⟩ := maxI_spec (ns := ns.map fun x => -x) (by rw [List.length_map]; exact h)
  obtain ⟨x, hx, e⟩ := List.mem_map.mp h1
  have em : minI ns = x := by unfold minI; omega
  rw [em]
  refine ⟨hx, fun y hy => ?_⟩
  have := h2 (-y) (List.mem_map.mpr ⟨y, hy, rfl⟩)
  omega
def dMin : List D → Option D
  | [.lst ds] => (intsOf ds).bind fun ns => if 0 < ns.length then some (.int (minI ns)) else none
  | _ => none
theorem ok_min {K : PySem.W.Frag} : CallG K (rMin K) dMin := fun Z ρ H xs ds d Q sz hx hd gr => by
  unfold dMin at hd
  split at hd
  · obtain ⟨ns, h1, hd⟩ := bind_some hd
    obtain ⟨hl, e⟩ := ite_some hd
    subst e
    obtain ⟨v, rfl, hv⟩ := reps1 hx
    obtain ⟨a, vs, e, k1, k2⟩ := rep_lst.mp hv
    subst e
    rw [intsOf_some h1] at k2
    rw [reps_ints k2] at k1
    refine ⟨a, ns, rfl, k1.sq, hl, fun m hm hle => ?_⟩
    obtain ⟨j1, j2⟩ := minI_spec hl
    have : m = minI ns := Int.le_antisymm (hle _ j1) (j2 _ hm)
    rw [this]
    exact gr.now sz (by simp)
  · cases hd
theorem dMin_some {ns : List Int} (h : 0 < ns.length) : dMin [.lst (ns.map D.int)] = some (.int (minI ns)) := by
  show ((intsOf (ns.map D.int)).bind fun ns => if 0 < ns.length then some (D.int (minI ns)) else none) = _
  rw [intsOf_map]
  exact if_pos h
/-! ### enumerate(xs) of a list -/
def enumD : List D → Option (List (D × D))
  | [.lst xs] => some ((rngD 0 xs.length).zip xs)
  | _ => none
def iEnumD (fa : ES (List D)) : ES (List D) := fun ε S => (fa ε S).bind fun ds ε S => R.opt ((enumD ds).map fun ps => ps.map fun p => .tup [p.1, p.2]) ε S
section
variable {X : Cx} {C : Cfg} {e : Expr} {elts : List Expr} {kk : Nat} {tpos p pos : Pos}
theorem di_enum {fa : ES (List D)} (ha : DA X C [e] fa) (hm : X.mg "enumerate" = none) (hg : Gl X "enumerate" := by rfl) (hs : starEach [e] X.env = [(false, eval e X.env)] := by rfl) :
    DI X C (.Tuple elts kk tpos) (.Call (.Name "enumerate" p) [e] [] pos) (iEnumD fa) := PI_imp (pi_enum hg hm ha hs) fun σ H P0 ⟨w, e1, e2, rl, q⟩ => by
  refine ⟨w, e1, e2, rl, POST.mono (POST.bind q) fun ds w1 s1 m1 r1 ⟨z1, z2, z3, q1⟩ vs hv => ?_⟩
  obtain ⟨zs, ez, q1⟩ := POST.opt q1
  obtain ⟨ps, ep, e3⟩ := Option.map_eq_some_iff.mp ez
  subst e3
  unfold enumD at ep
  split at ep
  · rename_i xs _
    cases ep
    obtain ⟨v, rfl, hv1⟩ := reps1 hv
    obtain ⟨a, us, ea, k1, k2⟩ := rep_lst.mp hv1
    subst ea
    have hlz : ((rngD 0 xs.length).zip xs).length = xs.length := by
      rw [List.length_zip]
      unfold rngD
      rw [List.length_map, List.length_range, Nat.min_self]
    refine ⟨a, us, rfl, k1.sq, ?_⟩
    refine POST.now r1 q1 _ (iter_pair (xs := fun i => some (.int (i : Nat))) (ys := fun i => us[i]?) (G := fun H => SqL X.K H a us) (ps := (rngD 0 xs.length).zip xs) ?_ ?_ (fun w2 m r2 => ((m.le r1.r).fzL k1).sq) (fun i p x hp hx => ?_) (fun i p y hp hy => ?_) r1)
    · rw [hlz, ← k2.length]
      exact r1.fzLen k1
    · rw [hlz, ← k2.length]
      exact walk_enum
    · cases hx
      have h := (zip_at hp).1
      unfold rngD at h
      rw [List.getElem?_map] at h
      have hi := (List.getElem?_eq_some_iff.mp hp).1
      rw [hlz] at hi
      rw [List.getElem?_range hi] at h
      have h : some (D.int (0 + (i : Nat))) = some p.1 := h
      rw [← Option.some.inj h, Int.zero_add]
      exact rep_int.mpr rfl
    · obtain ⟨u, j1, j2⟩ := Reps.get k2 (zip_at hp).2
      rw [j1] at hy; cases hy; exact j2
  · cases ep
end
/-! ### a fresh list(xs) -/
def mLstOf : List D → Option MO
  | [.lst xs] => some (.lst xs)
  | [.tup xs] => some (.lst xs)
  | _ => none
def eLstF (fa : ES (List D)) : ES MO := fun ε S => (fa ε S).bind fun ds ε S => R.opt (mLstOf ds) ε S
section
variable {X : Cx} {C : Cfg} {e : Expr} {p pos : Pos}
theorem df_listOf {fa : ES (List D)} (hc : X.calm = true) (ha : DA X C [e] fa) (hm : X.mg "list" = none) (hg : Gl X "list" := by rfl) (he : starEach [e] X.env = (false, eval e X.env) :: starEach [] X.env := by rfl) :
    DF X C (.Call (.Name "list" p) [e] [] pos) (eLstF fa) := PE_imp (pe_callTy call_list_of hg hm rfl ha (by decide) (by decide) he rfl) fun σ H Q ⟨w, e1, e2, rl, q⟩ => by
  subst e1; subst e2
  refine ⟨w, rfl, rfl, rl, POST.mono (POST.bind q) fun ds w1 s1 m1 r1 ⟨_, _, _, q1⟩ vs hv => ?_⟩
  obtain ⟨m, em, q2⟩ := POST.opt q1
  have fin : ∀ {us : List V} {xs : List D}, m = .lst xs → w1.Reps X.K xs us → us.length ≤ sizeLine → ∀ l, w1.H l = none → Q (.ref l) (upd w1.H l (.lst us)) := fun {us xs} ex hr hl l h0 => by
    subst ex
    have q4 := POST.at q2 (Mono.lay (o := .lst us) h0) (r1.lay h0 (show SzOk (.lst us) from hl)) rfl rfl rfl
    exact q4 l (m1.dom l h0) (Lone.of r1 h0) ⟨_, upd_same, Reps.mono ((Mono.lay h0).le r1.r) _ _ hr⟩ (fun _ _ z => nomatch z)
  unfold mLstOf at em
  split at em
  · cases em
    obtain ⟨v, rfl, hv1⟩ := reps1 hv
    obtain ⟨a, us, ea, k1, k2⟩ := rep_lst.mp hv1
    subst ea
    exact ⟨a, us, rfl, .inl k1.sq, fin rfl k2 (r1.fzLen k1)⟩
  · cases em
    obtain ⟨v, rfl, hv1⟩ := reps1 hv
    obtain ⟨a, us, ea, k1, k2⟩ := rep_tup.mp hv1
    subst ea
    exact ⟨a, us, rfl, .inr k1.sq, fin rfl k2 (r1.tpLen k1)⟩
  · cases em
end
end DL
namespace DL
open L2 PyProof.Rows PySem PySem.Spec
variable [TabT]
/-! ### a comprehension over what is owned, or lies in the store: nothing is changed, all is read -/
def compP (i : Nat) (t : EV → Sto → Option Bool) (f : PF) (ε : EV) (S : Sto) : List D → Option (List D)
  | [] => some []
  | d :: ds => (t (ε.set i (some (.val d))) S).bind fun b => if b then (f (ε.set i (some (.val d))) S).bind fun y => if lf y then (compP i t f ε S ds).map (y :: ·) else none else compP i t f ε S ds
def eCompO (i : Nat) (fo : ES Plc) (t : EV → Sto → Option Bool) (f : PF) : ES MO := fun ε S => (fo ε S).bind fun l ε S => match getM l ε S with
  | some (.lst ds) => (match compP i t f (wipeE ε [i]) S ds with
    | some ys => .ok (.lst ys) (backE ε (wipeE ε [i]) [i]) S
    | none => .stuck)
  | _ => .stuck
def pYes : EV → Sto → Option Bool := fun _ _ => some true
section
variable {X : Cx} {C : Cfg} {elt iter : Expr} {ifs : List Expr} {scope : Scope} {y : Str} {i : Nat} {pos py : Pos} {fo : ES Plc} {t : EV → Sto → Option Bool} {f : PF}
theorem wipe_one {σ : L2.St} {i : Nat} {x : Option V} : L2.wipe (σ.set i x) [i] = L2.wipe σ [i] := by
  show (σ.set i x).set i none = σ.set i none
  rw [List.set_set]
theorem wipeE_one {ε : EV} {i : Nat} {x : Option SV} : wipeE (ε.set i x) [i] = wipeE ε [i] := by
  show (ε.set i x).set i none = ε.set i none
  rw [List.set_set]
theorem lcO_of : ∀ σ H Q, tF X.K C (eCompO i fo t f) σ H Q → tLc (iSeqV X.K (tO X.K C fo)) (gName i) (tPT X.K C.no t) (tP X.K C.no f) [i] σ H Q := fun σ H Q ⟨w, e1, e2, rl, q⟩ => by
  subst e1; subst e2
  refine ⟨w, rfl, rfl, rl, POST.mono (POST.bind q) fun l w1 s1 m1 r1 ⟨_, _, _, q1⟩ p m g a => ?_⟩
  obtain ⟨ho, hz⟩ := getM_ok r1.r a g
  rw [g] at q1
  cases m with
  | dic t ks vs => exact q1.elim
  | obj c fs => exact q1.elim
  | lst ds =>
  dsimp only at q1
  cases hc : compP i t f (wipeE w1.ε [i]) w1.S ds with
  | none => rw [hc] at q1; exact q1.elim
  | some ys =>
  rw [hc] at q1
  obtain ⟨vs, hp, hr⟩ := mok_lst ho
  have hlen : vs.length = ds.length := Reps.length hr
  have hsz : vs.length ≤ sizeLine := r1.sz p _ hp
  refine .inl ⟨p, rfl, ⟨vs, .inl (.inl hp)⟩, fun B hB => ?_⟩
  have npB : p ≠ B := ne_of_none hp hB
  rw [← s1]
  refine lc_it (walk_list (xs := vs)) (fun k H' => ∃ (w2 : Ws) (acc : List D) (xs : List V), w2.H = H' ∧ w2.σ = L2.wipe w1.σ [i] ∧ w2.ε = wipeE w1.ε [i] ∧ w2.S = w1.S ∧ Mono w1 w2 ∧ RelC X.K C w2 ∧ H' p = some (.lst vs) ∧ H' B = some (.lst xs) ∧ w2.Reps X.K acc xs ∧ xs.length ≤ k ∧ Lone w2 B ∧
    ∃ rest, compP i t f (wipeE w1.ε [i]) w1.S (ds.drop k) = some rest ∧ ys = acc ++ rest) ?_ (fun k H' _ ⟨w2, _, _, _, _, _, _, _, _, h, _⟩ => .inl (.inl h)) (fun k x H2 H3 hk hP hy => ?_) (fun H2 hP => ?_)
  · have ra : RelC X.K C (w1.lay B (.lst [])) := r1.lay hB (Nat.zero_le _)
    obtain ⟨mw, rw'⟩ := ra.wipe [i]
    refine ⟨{ (w1.lay B (.lst [])) with ε := wipeE w1.ε [i], σ := L2.wipe w1.σ [i] }, [], [], rfl, rfl, rfl, rfl, (Mono.lay hB).trans mw, rw', ?_, upd_same, by simp only [Ws.Reps, DL.Reps], Nat.zero_le _, ?_, ys, hc, by simp⟩
    · show upd w1.H B _ p = _
      rw [upd_ne npB]; exact hp
    · have l := Lone.of (o := HO.lst []) r1 hB
      refine ⟨l.z, l.ρ, fun ⟨j, x, h1, h2⟩ => ?_⟩
      have h1 : (wipeE w1.ε [i])[j]? = some (some (.own x)) := h1
      obtain ⟨h1, hn⟩ := wipeE_some h1
      have h2 : (L2.wipe w1.σ [i])[j]? = _ := h2
      rw [wipe_other hn] at h2
      exact l.own ⟨j, x, h1, h2⟩
  · obtain ⟨w2, acc, xs, h2, hσ2, hε2, hS2, m2, r2, hpx, hBx, hacc, hle, hl2, rest, hrest, eys⟩ := hP
    obtain ⟨eH, hx⟩ := hy
    subst eH
    subst h2
    have hkd : k < ds.length := by rw [← hlen]; exact hk
    obtain ⟨hd, hdr⟩ := drop_at hkd
    rw [hdr] at hrest
    obtain ⟨v', k1, k2⟩ := Reps.get hr hd
    rw [k1] at hx
    cases hx
    have hxr : w2.Rep X.K ds[k] x := Rep.mono (m2.le r1.r) _ _ k2
    have r3 := r2.setV (i := i) hxr
    have m3 : Mono w2 (w2.setV i ds[k] x) := Mono.setV
    have eε : (w2.setV i ds[k] x).ε = (wipeE w1.ε [i]).set i (some (.val ds[k])) := by
      show w2.ε.set i _ = _
      rw [hε2]
    have wσ : L2.wipe (w2.σ.set i (some x)) [i] = L2.wipe w1.σ [i] := by
      rw [wipe_one, hσ2]
      show ((w1.σ.set i none).set i none) = _
      rw [List.set_set]; rfl
    have wε : wipeE ((wipeE w1.ε [i]).set i (some (.val ds[k]))) [i] = wipeE w1.ε [i] := by
      rw [wipeE_one]
      show ((w1.ε.set i none).set i none) = _
      rw [List.set_set]; rfl
    obtain ⟨b, hb, hrest⟩ := bind_some hrest
    show L2.wipe ((L2.wipe w1.σ [i]).set i (some x)) [i] = L2.wipe w1.σ [i] ∧ _
    rw [← hσ2] at wσ ⊢
    refine ⟨wσ, ?_⟩
    refine ⟨w2.setV i ds[k] x, b, rfl, rfl, r3.no, by rw [eε, ← hb]; show t _ w2.S = _; rw [hS2], fun H4 N s4 sz4 n4 => ?_⟩
    obtain ⟨m4, r4⟩ := RelC.gr r3 s4 sz4 n4
    obtain ⟨l4, hB4⟩ := hl2.next hBx (m3.trans m4)
    have hp4 : H4 p = some (.lst vs) := s4 p _ hpx
    cases b with
    | false =>
      rw [if_neg Bool.false_ne_true] at hrest ⊢
      obtain ⟨mw, rw'⟩ := r4.wipe [i]
      refine ⟨{ (w2.setV i ds[k] x).gr H4 N with ε := wipeE ((w2.setV i ds[k] x).gr H4 N).ε [i], σ := L2.wipe ((w2.setV i ds[k] x).gr H4 N).σ [i] }, acc, xs, rfl, wσ, ?_, hS2, ((m2.trans m3).trans m4).trans mw, rw', hp4, hB4, Reps.mono (((m3.trans m4).trans mw).le r2.r) acc xs hacc, Nat.le_succ_of_le hle, (l4.next hB4 mw).1, rest, hrest, eys⟩
      show wipeE (w2.ε.set i _) [i] = _
      rw [hε2]; exact wε
    | true =>
      rw [if_pos rfl] at hrest ⊢
      obtain ⟨yv, hf, hrest⟩ := bind_some hrest
      by_cases hlf : lf yv = true
      · rw [if_pos hlf] at hrest
        obtain ⟨rest', hr1, hr2⟩ := Option.map_eq_some_iff.mp hrest
        refine ⟨(w2.setV i ds[k] x).gr H4 N, yv, rfl, rfl, r4.no, by rw [← hf]; show f (w2.ε.set i _) w2.S = _; rw [hε2, hS2], fun v H5 N' s5 sz5 n5 hv => ?_⟩
        obtain ⟨m5, r5⟩ := RelC.gr r4 s5 sz5 n5
        obtain ⟨l5, hB5⟩ := l4.next hB4 m5
        have hp5 : H5 p = some (.lst vs) := s5 p _ hp4
        have hv6 : Ws.Rep (((w2.setV i ds[k] x).gr H4 N).gr H5 N') X.K yv v := Rep.lf yv v hlf hv
        have hz' : xs.length < sizeLine := by omega
        refine ⟨xs, hB5, hz', ?_⟩
        have m16 := ((m2.trans m3).trans m4).trans m5
        have m26 := (m3.trans m4).trans m5
        obtain ⟨r7, m17, le7, l7⟩ := RelC.alter (o' := .lst (xs ++ [v])) r5 r1 m16 hB l5 hB5 (fun z => z) (by show (xs ++ [v]).length ≤ _; rw [List.length_append]; exact hz')
        obtain ⟨mw, rw'⟩ := r7.wipe [i]
        refine ⟨{ (((w2.setV i ds[k] x).gr H4 N).gr H5 N').lay B (.lst (xs ++ [v])) with ε := wipeE ((w2.setV i ds[k] x).gr H4 N).ε [i], σ := L2.wipe ((w2.setV i ds[k] x).gr H4 N).σ [i] }, acc ++ [yv], xs ++ [v], rfl, wσ, ?_, hS2, m17.trans mw, rw', ?_, upd_same, ?_, ?_, (l7.next upd_same mw).1, rest', hr1, ?_⟩
        · show wipeE (w2.ε.set i _) [i] = _
          rw [hε2]; exact wε
        · show upd H5 B _ p = _
          rw [upd_ne npB]; exact hp5
        · exact Reps.append (Reps.mono (((m26.le r2.r).trans le7).trans (mw.le r7.r)) acc xs hacc) (Reps.one (Rep.mono (le7.trans (mw.le r7.r)) yv v hv6))
        · rw [List.length_append]
          exact Nat.succ_le_succ hle
        · rw [eys, ← hr2]
          simp
      · rw [if_neg hlf] at hrest; cases hrest
  · obtain ⟨w2, acc, xs, h2, hσ2, hε2, hS2, m2, r2, hpx, hBx, hacc, hle, hl2, rest, hrest, eys⟩ := hP
    rw [hlen, List.drop_length] at hrest
    cases hrest
    rw [List.append_nil] at eys
    subst h2
    subst eys
    obtain ⟨r3, m3⟩ := RelC.back r1 m2 r2 hσ2
    refine POST.at q1 m3 r3 (by show backE w1.ε w2.ε [i] = _; rw [hε2]) hS2 rfl B (m1.dom B hB) ⟨hl2.z, hl2.ρ, fun h => ?_⟩ ⟨xs, hBx, hacc⟩ (fun _ _ z => nomatch z)
    obtain ⟨j, x, h1, h2⟩ := h
    rcases backE_some h1 with ⟨_, _, d, z⟩ | ⟨h3, h4⟩
    · cases z
    · exact hl2.own ⟨j, x, h4, by rw [hσ2, wipe_other h3]; exact h2⟩
def DPTs (X : Cx) (C : Cfg) (ifs : List Expr) (t : EV → Sto → Option Bool) : Prop := PTs X ifs (tPT X.K C t)
theorem dpts_nil : DPTs X C [] pYes := PTs_imp pts_nil fun σ H Q ⟨w, b, e1, e2, rl, hb, g⟩ => by
  subst e2
  cases hb
  exact g w.H (fun _ => False) (Same.refl _) rl.sz (fun _ z => z.elim)
theorem dpts_one {c : Expr} (h : DPT X C c t) : DPTs X C [c] t := pts_one h
theorem df_compO (hc : X.calm = true) (hN : X.N.Nodup) (hi : DO X C iter fo) (ok : BlkOk X.N X.env.scope scope [(y, i)])
    (hg : ∀ (s : Shared) (H : Hp) (C' : Addr) (cl : List (Str × Addr)) (fp : List Addr), PG (X.blk s H scope (compEnvC scope cl C' X.env) fp) (.Name y py) (gName i))
    (ht : ∀ (s : Shared) (H : Hp) (C' : Addr) (cl : List (Str × Addr)) (fp : List Addr), DPTs (X.blk s H scope (compEnvC scope cl C' X.env) fp) C.no ifs t)
    (he : ∀ (s : Shared) (H : Hp) (C' : Addr) (cl : List (Str × Addr)) (fp : List Addr), DP (X.blk s H scope (compEnvC scope cl C' X.env) fp) C.no elt f)
    (hs : ∀ x, foldedSetIterable iter X.env x = pure x := by intro _; rfl) : DF X C (.ListComp elt [⟨.Name y py, iter, ifs, 0⟩] scope pos) (eCompO i fo t f) :=
  PE_imp (pe_lc (wi := iSeqV X.K (tO X.K C fo)) (g := gName i) (tt := tPT X.K C.no t) (te := tP X.K C.no f) hc hN (pi_seqV hi) ok hg ht he hs) lcO_of
theorem pg_nameD (i : Nat) {x : Str} (hN : X.N.Nodup) (hi : X.N[i]? = some x := by rfl) (hx : Loc X.env.scope x := by first | exact Or.inl rfl | exact Or.inr rfl) (hf : X.fn x = true ∨ X.env.scope.names.lookup x = some .local := by first | exact .inl rfl | exact .inr rfl) : PG X (.Name x pos) (gName i) := pg_name hN hi hx hf
/-! ### an item of an owned list, whatever it is -/
def eItemO (fo : ES Plc) (fi : ES D) : ES D := fun ε S => (fo ε S).bind fun l ε S => (fi ε S).bind fun k ε S => match getM l ε S, k with
  | some (.lst ds), .int k => R.opt (atI ds k) ε S
  | _, _ => .stuck
theorem de_itemO {a b : Expr} {fi : ES D} (ha : DO X C a fo) (hb : DE X C b fi) (hs : PlainIx b := by intro _ _; rfl) : DE X C (.Subscript a b pos) (eItemO fo fi) :=
  PE_imp (pe_ix ix_list ha hb hs) fun σ H Q ⟨w, e1, e2, rl, q⟩ => by
    subst e1; subst e2
    refine ⟨w, rfl, rfl, rl, POST.mono (POST.bind q) fun l w1 s1 m1 r1 ⟨_, _, _, q1⟩ p m g a => ?_⟩
    refine ⟨w1, s1, rfl, r1, POST.mono (POST.bind q1) fun kd w2 s2 m2 r2 ⟨_, _, _, q2⟩ v hv => ?_⟩
    have a2 := At.mono (K := X.K) m2 s2 a
    split at q2
    · rename_i ds k g2 _
      obtain ⟨d, hd, q3⟩ := POST.opt q2
      obtain ⟨ho, _⟩ := getM_ok r2.r a2 g2
      obtain ⟨vs, hp2, hr⟩ := mok_lst ho
      obtain ⟨u, hu, ru⟩ := reps_at hr hd
      exact ⟨p, vs, k, u, rfl, rep_int.mp hv, .inl (.inl hp2), hu, POST.now r2 q3 u ru⟩
    · exact q2.elim
end
end DL
namespace DL
open L2 PyProof.Rows PySem PySem.Spec
/-! ### t[::-1] -/
section
variable {prog : Program} {w : World} {A : Around} {E : Value → Shared → Prop} {s : Shared}
theorem adjust_back (n : Nat) : Builtin.Slice.sliceAdjust none none (-1) (n : Int) = ((n : Int) - 1, -1) := by
  have h1 : ((-1 : Int) < 0) := by decide
  unfold Builtin.Slice.sliceAdjust; simp only [h1, if_true]
theorem places_back (n : Nat) : Builtin.Slice.slicePlaces ((n : Int) - 1) (-1) (-1) = n := by
  unfold Builtin.Slice.slicePlaces
  have h1 : ¬ ((-1 : Int) > 0) := by decide
  rw [if_neg h1]
  by_cases h : (n : Int) - 1 > -1
  · rw [if_pos h, show (-(-1) : Int) = 1 from rfl, Int.ediv_one]; omega
  · rw [if_neg h]; omega
theorem applied_back {q : Addr} {vl vu vs : Value} {n : Nat} {Q : Int × Int × Nat → Shared → Prop} (hs : s.heap.IsSliceOf q vl vu vs) (pl : IsPart vl none) (pu : IsPart vu none) (ps : IsPart vs (some (-1)))
    (h : Q ((n : Int) - 1, -1, n) s) : wpAny (model prog w) A (Builtin.Slice.sliceApplied (.ref q) (pure (n : Int))) Q E s := by
  obtain ⟨oz, hoz, hcz, hdz⟩ := id hs
  unfold Builtin.Slice.sliceApplied Builtin.Slice.sliceFields
  refine wpAny_bind (wpAny_bind (wpAny_field hoz hdz (x := vl) rfl (wpAny_bind (wpAny_field hoz hdz (x := vu) rfl (wpAny_bind (wpAny_field hoz hdz (x := vs) rfl (wpAny_pure ?_)))))))
  refine wpAny_bind (HT.slicePart_ ps ?_)
  show wpAny _ _ (if ((-1 : Int) == 0) = true then _ else _) _ _ s
  rw [if_neg (show ¬ ((-1 : Int) == 0) = true by decide)]
  refine wpAny_bind (HT.slicePart_ pl (wpAny_bind (HT.slicePart_ pu (wpAny_bind (wpAny_pure ?_)))))
  show wpAny _ _ (match Builtin.Slice.sliceAdjust none none (-1) (n : Int) with | (lo, hi) => pure (lo, (-1 : Int), Builtin.Slice.slicePlaces lo hi (-1))) _ _ s
  rw [adjust_back]
  show wpAny _ _ (pure ((n : Int) - 1, (-1 : Int), Builtin.Slice.slicePlaces ((n : Int) - 1) (-1) (-1))) _ _ s
  rw [places_back]
  exact wpAny_pure h
theorem pick_back (xs : Array Value) : ((List.range xs.size).filterMap fun (m : Nat) => xs[(((xs.size : Int) - 1) + (m : Int) * -1).toNat]?).toArray = xs.toList.reverse.toArray := by
  congr 1
  have e : (List.range xs.size).filterMap (fun (m : Nat) => xs[(((xs.size : Int) - 1) + (m : Int) * -1).toNat]?) = (List.range xs.size).filterMap fun m => xs.toList.reverse[m]? := by
    have cong : ∀ (l : List Nat) (f g : Nat → Option Value), (∀ m ∈ l, f m = g m) → l.filterMap f = l.filterMap g := fun l f g => by
      induction l with
      | nil => intro _; rfl
      | cons a l ih => intro h; rw [List.filterMap_cons, List.filterMap_cons, h a List.mem_cons_self, ih fun m hm => h m (List.mem_cons_of_mem _ hm)]
    refine cong _ _ _ fun m hm => ?_
    have := List.mem_range.mp hm
    rw [show ((((xs.size : Int) - 1) + (m : Int) * -1).toNat) = xs.size - 1 - m by omega, List.getElem?_reverse (by rw [Array.length_toList]; exact this), Array.length_toList, Array.getElem?_toList]
  rw [e]
  have key : ∀ l : List Value, (List.range l.length).filterMap (fun m => l[m]?) = l := fun l => by
    induction l with
    | nil => rfl
    | cons x l ih =>
      rw [List.length_cons, List.range_succ_eq_map, List.filterMap_cons, List.filterMap_map]
      show x :: List.filterMap _ _ = _
      congr 1
  have := key xs.toList.reverse
  rwa [List.length_reverse, Array.length_toList] at this
theorem item_tup_back {T q : Addr} {its : Array Value} {vl vu vs : Value} {Q : Value → Shared → Prop} (hT : IsTup s.heap T its) (hs : s.heap.IsSliceOf q vl vu vs) (pl : IsPart vl none) (pu : IsPart vu none) (ps : IsPart vs (some (-1)))
    (h : Q (.ref s.heap.objs.size) { s with heap := s.heap.push { cls := .type "tuple", data := .seq its.toList.reverse.toArray } }) (hz : its.size ≤ sizeLine) : wpAny (model prog w) A (getItem (.ref T) (.ref q)) Q E s := by
  have fit : sizeOk (.seq its.toList.reverse.toArray) := by
    show its.toList.reverse.toArray.size ≤ sizeLine
    rw [List.size_toArray, List.length_reverse, Array.length_toList]; exact hz
  have tq : s.TypeIs (.ref q) "slice" := let ⟨oz, hoz, hcz, _⟩ := hs; ⟨oz, hoz, hcz⟩
  unfold getItem
  refine wpAny_holding ?_
  try refine wpAny_bind (wpAny_pure ?_)
  refine wpAny_bind (wpAny_sequenceKey hT.typeIs (by decide) (wpAny_bind (wpAny_callSpecial?_slot (name := Str.ofString "__getitem__") hT.typeIs PyProof.Rows.slot_tuple_getitem (wpAny_call_entry PyProof.Rows.slot_tuple_getitem hT.typeIs entry_tuple_getitem ?_ (args_tuple_getitem _ _)))))
  show wpAny _ _ (Builtin.Tuple.tupleItemsOf (.ref T) >>= _) _ _ s
  refine wpAny_bind (tupleItemsOf_ hT (wpAny_bind (wpAny_typeOf tq ?_)))
  rw [if_pos (show (Value.type "slice" == Value.type "slice") = true by decide)]
  refine wpAny_bind (applied_back hs pl pu ps ?_)
  have no : ¬ ((((its.size : Int) - 1) == 0 && (-1 : Int) == 1 && its.size == its.size) = true) := by
    rw [show ((-1 : Int) == 1) = false by decide, Bool.and_false, Bool.false_and]; exact Bool.false_ne_true
  show wpAny _ _ (if (((its.size : Int) - 1) == 0 && (-1 : Int) == 1 && its.size == its.size) = true then _ else _) _ _ s
  rw [if_neg no, pick_back]
  first
    | exact wpAny_bind (m := Builtin.Tuple.tupleExact _) (wpAny_newObj_type (wpAny_pure ⟨_, rfl, wpAny_pure h⟩) fit)
    | exact wpAny_bind (m := Builtin.Tuple.tupleExact _) (wpAny_newObj_type (wpAny_bind (wpAny_pure (wpAny_pure ⟨_, rfl, wpAny_pure h⟩))) fit)
    | exact wpAny_bind (wpAny_bind (m := Builtin.Tuple.tupleExact _) (wpAny_newObj_type (wpAny_pure (wpAny_pure ⟨_, rfl, wpAny_pure h⟩)) fit))
    | exact wpAny_bind (wpAny_bind (m := Builtin.Tuple.tupleExact _) (wpAny_newObj_type (wpAny_pure ⟨_, rfl, wpAny_pure h⟩) fit))
end
section
variable {X : Cx}
def tBackT (K : PySem.W.Frag) (te : TE) : TE := fun σ H Q => te σ H fun x H1 => ∃ a xs, x = .ref a ∧ SqT K H1 a xs ∧ ∀ p, H1 p = none → Q (.ref p) (upd H1 p (.tup xs.reverse))
theorem pe_backT {e : Expr} {te : TE} {k : Nat} {p1 p2 p3 pos : Pos} (he : PE X e te) : PE X (.Subscript e (.Slice none none (some (.UnaryOp .USub (.Constant (.int 1) k p1) p2)) p3) pos) (tBackT X.K te) := by
  refine ⟨fun pins s σ H Q I h => Subscript_ (thn (he.run pins s σ H _ I h) fun v s1 ⟨x, H1, I1, r1, a, xs, ex, hx, q⟩ => ?_)⟩
  subst ex; cases r1
  have st : PO X (some (.UnaryOp .USub (.Constant (.int 1) k p1) p2)) (tPart (tUn (rU fun i => .int (-i)) (tC (.int 1)))) := po_some (pe_un un_neg pe_int)
  refine wpAny_Slice (thn (po_none.run pins s1 σ H1 (fun o G => o = none ∧ G = H1) I1 ⟨rfl, rfl⟩) fun vl s2 ⟨l, H2, I2, pl, el, e2⟩ => thn (po_none.run pins s2 σ H2 (fun o G => o = none ∧ G = H2) I2 ⟨rfl, rfl⟩) fun vu s3 ⟨u, H3, I3, pu, eu, e3⟩ => thn (st.run pins s3 σ H3 (fun o G => o = some (-1) ∧ G = H3) I3 ⟨1, rfl, -1, rfl, rfl, rfl⟩) fun vs s4 ⟨o, H4, I4, ps, eo, e4⟩ => ?_)
  subst el eu eo e4 e3 e2
  have J : Inv X pins σ H4 { s4 with heap := s4.heap.push { cls := .type "slice", data := .fields #[vl, vu, vs] } } := I4.kept (t' := s4.toks) fun _ _ q => Heap.get?_push_of_some _ q
  obtain ⟨its, r, ht, hz⟩ := J.tuple hx
  have hz' : its.toArray.size ≤ sizeLine := by rw [List.size_toArray, ← r.length]; exact hz
  show wpAny _ X.A (subscriptTail e (.Slice none none (some (.UnaryOp .USub (.Constant (.int 1) k p1) p2)) p3) (.ref a) (.ref s4.heap.objs.size)) _ X.xe { s4 with heap := s4.heap.push { cls := .type "slice", data := .fields #[vl, vu, vs] } }
  refine tail_any (ops := [.ref a, .ref s4.heap.objs.size]) ht.typeIs PyProof.Rows.slot_tuple_getitem.lookup (item_tup_back ht (Heap.IsSliceOf.new _ vl vu vs) pl pu ps ?_ hz') (by with_unfolding_all rfl)
  refine ⟨.ref _, _, J.laid (t' := s4.toks) (o := .tup xs.reverse) (fun _ _ q => Heap.get?_push_of_some _ q) (Nat.le_refl _) ⟨by rw [List.length_reverse]; exact hz, _, by rw [List.toList_toArray] at *; exact r.reverse, IsTup.new _ _⟩, rfl, q _ (J.hok.fresh (Nat.le_refl _))⟩
end
variable [TabT]
section
variable {X : Cx} {C : Cfg} {a e : Expr} {fa f : ES D} {pos p1 p2 p3 : Pos} {k : Nat}
theorem Reps.reverse {K : PySem.W.Frag} {Z : Addr → Prop} {ρ : List Addr} {H : Hp} : ∀ {ds : List D} {vs : List V}, Reps K Z ρ H ds vs → Reps K Z ρ H ds.reverse vs.reverse
  | [], vs, h => by
    simp only [DL.Reps] at h
    subst h
    simp only [List.reverse_nil, DL.Reps]
  | d :: ds, vs, h => by
    simp only [DL.Reps] at h
    obtain ⟨v, ws, e, h1, h2⟩ := h
    subst e
    rw [List.reverse_cons, List.reverse_cons]
    exact Reps.append (Reps.reverse h2) (Reps.one h1)
def dRev : D → Option D
  | .tup ds => some (.tup ds.reverse)
  | _ => none
def eRev (f : ES D) : ES D := fun ε S => (f ε S).bind fun d ε S => R.opt (dRev d) ε S
theorem de_rev (ha : DE X C a fa) : DE X C (.Subscript a (.Slice none none (some (.UnaryOp .USub (.Constant (.int 1) k p1) p2)) p3) pos) (eRev fa) := PE_imp (pe_backT ha) fun σ H Q ⟨w, e1, e2, rl, q⟩ => by
  refine ⟨w, e1, e2, rl, POST.mono (POST.bind q) fun d w1 s1 m1 r1 ⟨_, _, _, q1⟩ v hv => ?_⟩
  obtain ⟨dd, hd, q2⟩ := POST.opt q1
  unfold dRev at hd
  split at hd
  · cases hd
    obtain ⟨b, vs, e, h1, h2⟩ := rep_tup.mp hv
    subst e
    refine ⟨b, vs, rfl, h1.sq, fun p hp => Grown.tup (Z := w1.Z) (ρ := w1.ρ) (fun v4 H4 N4 s4 sz4 n4 hv4 => ?_) r1.sz h2.reverse (by rw [List.length_reverse]; exact tpT_len r1.sz h1) hp⟩
    obtain ⟨m4, r4⟩ := r1.gr s4 sz4 n4
    exact POST.at q2 m4 r4 rfl rfl rfl v4 hv4
  · cases hd
theorem eRev_ok {ε ε1 : EV} {S S1 : Sto} {ds : List D} (h : f ε S = .ok (.tup ds) ε1 S1) : eRev f ε S = .ok (.tup ds.reverse) ε1 S1 := by unfold eRev; rw [h]; rfl
/-! ### slices, the bounds with changes -/
def oNo : ES (Option Int) := fun ε S => .ok none ε S
def oPt (f : ES D) : ES (Option Int) := fun ε S => (f ε S).bind fun d ε S => match d with
  | .int i => .ok (some i) ε S
  | _ => .stuck
def tOE (K : PySem.W.Frag) (C : Cfg) (f : ES (Option Int)) : TO := fun σ H Q => ∃ w : Ws, w.σ = σ ∧ w.H = H ∧ RelC K C w ∧ POST K C w (f w.ε w.S) fun o w' => Q o w'.H
def DOE (X : Cx) (C : Cfg) (e : Option Expr) (f : ES (Option Int)) : Prop := PO X e (tOE X.K C f)
theorem doe_none : DOE X C none oNo := PO_imp po_none fun σ H Q ⟨w, e1, e2, rl, q⟩ => by
  subst e2
  exact POST.now rl q
theorem doe_some (h : DE X C e f) : DOE X C (some e) (oPt f) := PO_imp (po_some h) fun σ H Q ⟨w, e1, e2, rl, q⟩ => by
  refine ⟨w, e1, e2, rl, POST.mono (POST.bind q) fun d w1 s1 m1 r1 ⟨_, _, _, q1⟩ v hv => ?_⟩
  cases d with
  | int i => exact ⟨i, rep_int.mp hv, POST.now r1 q1⟩
  | _ => exact q1.elim
def eSlE (f : ES D) (lo hi : ES (Option Int)) : ES D := fun ε S => (f ε S).bind fun d ε S => (lo ε S).bind fun l ε S => (hi ε S).bind fun h ε S => R.opt (dSl d l h) ε S
variable {lo hi : Option Expr} {fl fh : ES (Option Int)}
theorem de_sliceE (ha : DE X C a fa) (hl : DOE X C lo fl) (hh : DOE X C hi fh) : DE X C (.Subscript a (.Slice lo hi none p2) pos) (eSlE fa fl fh) := PE_imp (pe_slice sl_all ha hl hh) fun σ H Q ⟨w, e1, e2, rl, q⟩ => by
  refine ⟨w, e1, e2, rl, POST.mono (POST.bind q) fun d w1 s1 m1 r1 ⟨_, _, _, q1⟩ v hv => ?_⟩
  refine ⟨w1, s1.trans e1, rfl, r1, POST.mono (POST.bind q1) fun l w2 s2 m2 r2 ⟨_, _, _, q2⟩ => ?_⟩
  refine ⟨w2, s2.trans (s1.trans e1), rfl, r2, POST.mono (POST.bind q2) fun h w3 s3 m3 r3 ⟨_, _, _, q3⟩ => ?_⟩
  obtain ⟨dd, hf, q4⟩ := POST.opt q3
  refine ok_sl (Z := w3.Z) (ρ := w3.ρ) r3.sz (Rep.mono ((m2.trans m3).le r1.r) d v hv) hf fun v4 H4 N4 s4 sz4 n4 hv4 => ?_
  obtain ⟨m4, r4⟩ := r3.gr s4 sz4 n4
  exact POST.at q4 m4 r4 rfl rfl rfl v4 hv4
theorem oPt_ok {ε ε1 : EV} {S S1 : Sto} {i : Int} (h : f ε S = .ok (.int i) ε1 S1) : oPt f ε S = .ok (some i) ε1 S1 := by unfold oPt; rw [h]; rfl
theorem eSlE_ok {ε ε1 ε2 ε3 : EV} {S S1 S2 S3 : Sto} {x d : D} {l h : Option Int} (h1 : f ε S = .ok x ε1 S1) (h2 : fl ε1 S1 = .ok l ε2 S2) (h3 : fh ε2 S2 = .ok h ε3 S3) (h4 : dSl x l h = some d) : eSlE f fl fh ε S = .ok d ε3 S3 := by
  unfold eSlE; rw [h1]; dsimp only [R.bind]; rw [h2]; dsimp only; rw [h3]; dsimp only; rw [h4]; rfl
/-! ### str(i) -/
def dStr1 : List D → Option D
  | [.int i] => if i.natAbs.log2 < 1920 then some (.str (toString i)) else none
  | _ => none
theorem ok_str1 {K : PySem.W.Frag} : CallG K (fun xs H Q => ∃ i, xs = [.int i] ∧ i.natAbs.log2 < 1920 ∧ Q (.str (toString i)) H) dStr1 := fun Z ρ H xs ds d Q sz hx hd gr => by
  unfold dStr1 at hd
  split at hd
  · obtain ⟨hl, e⟩ := ite_some hd
    subst e
    obtain ⟨v, rfl, hv⟩ := reps1 hx
    rw [rep_int] at hv
    exact ⟨_, by rw [hv], hl, gr.now sz (by simp)⟩
  · cases hd
end
end DL
namespace DL
open L2 PyProof.Rows PySem PySem.Spec
variable [TabT]
/-! ### [f for g in it if t for g1 in it1 if t1] -/
def lcL2 (g : GS) (t : ES Bool) (it1 : ES (List D)) (g1 : GS) (t1 : ES Bool) (f : ES D) (vs vs1 : List Nat) : List D → ES (List D)
  | [], ε, S => .ok [] ε S
  | d :: ds, ε, S => (g d ε S).bind fun _ ε S => (t ε S).bind fun k ε S =>
    if k then (it1 ε S).bind fun ds1 ε S => (lcL g1 t1 f vs1 ds1 (wipeE ε vs1) S).bind fun ys ε S => (lcL2 g t it1 g1 t1 f vs vs1 ds (wipeE ε vs) S).bind fun zs ε S => .ok (ys ++ zs) ε S
    else lcL2 g t it1 g1 t1 f vs vs1 ds (wipeE ε vs) S
def eComp2 (it : ES (List D)) (g : GS) (t : ES Bool) (it1 : ES (List D)) (g1 : GS) (t1 : ES Bool) (f : ES D) (vs vs1 : List Nat) : ES MO := fun ε S =>
  (it ε S).bind fun ds ε1 S => (R.noex (lcL2 g t it1 g1 t1 f vs vs1 ds (wipeE ε1 vs) S)).bind fun ys ε2 S => if ys.length ≤ sizeLine then .ok (.lst ys) (backE ε1 ε2 vs) S else .stuck
/-- what is wished behind the rest -/
def CF (Kt : List D → EV → Sto → Prop) (r : R (List D)) (acc : List D) : Prop := match r with
  | .ok ys ε2 S2 => Kt (acc ++ ys) ε2 S2
  | _ => False
section
variable {K : PySem.W.Frag} {C : Cfg} {vs : List Nat} {g : GS} {t : ES Bool} {f : ES D} {Kt : List D → EV → Sto → Prop}
theorem CF.step {d : D} {ds : List D} {ε : EV} {S : Sto} {acc : List D} (h : CF Kt (lcL g t f vs (d :: ds) ε S) acc) : ∃ ε1 S1 k ε2 S2, g d ε S = .ok () ε1 S1 ∧ t ε1 S1 = .ok k ε2 S2 ∧
    (k = false → CF Kt (lcL g t f vs ds (wipeE ε2 vs) S2) acc) ∧ (k = true → ∃ y ε3 S3, f ε2 S2 = .ok y ε3 S3 ∧ CF Kt (lcL g t f vs ds (wipeE ε3 vs) S3) (acc ++ [y])) := by
  unfold lcL at h
  cases hg : g d ε S with
  | ex c ε1 S1 => rw [hg] at h; exact False.elim h
  | stuck => rw [hg] at h; exact False.elim h
  | ok u ε1 S1 =>
    rw [hg] at h
    dsimp only [R.bind] at h
    cases ht : t ε1 S1 with
    | ex c ε2 S2 => rw [ht] at h; exact False.elim h
    | stuck => rw [ht] at h; exact False.elim h
    | ok k ε2 S2 =>
      rw [ht] at h
      dsimp only at h
      refine ⟨ε1, S1, k, ε2, S2, rfl, ht, fun hk => by subst hk; rw [if_neg Bool.false_ne_true] at h; exact h, fun hk => ?_⟩
      subst hk
      rw [if_pos rfl] at h
      cases hf : f ε2 S2 with
      | ex c ε3 S3 => rw [hf] at h; exact False.elim h
      | stuck => rw [hf] at h; exact False.elim h
      | ok y ε3 S3 =>
        rw [hf] at h
        dsimp only at h
        refine ⟨y, ε3, S3, rfl, ?_⟩
        cases hl : lcL g t f vs ds (wipeE ε3 vs) S3 with
        | ex c ε4 S4 => rw [hl] at h; exact False.elim h
        | stuck => rw [hl] at h; exact False.elim h
        | ok ys ε4 S4 =>
          rw [hl] at h
          unfold CF at h ⊢
          dsimp only at h ⊢
          rw [List.append_assoc]
          exact h
theorem CF.len (hK : ∀ acc ε S, Kt acc ε S → acc.length ≤ sizeLine) {r : R (List D)} {acc : List D} (h : CF Kt r acc) : acc.length ≤ sizeLine := by
  cases r with
  | ok ys ε2 S2 =>
    have := hK _ _ _ h
    rw [List.length_append] at this
    omega
  | ex c ε2 S2 => exact h.elim
  | stuck => exact h.elim
/-- the walk's turns, whatever is done in them -/
theorem walk_go {J : It} {n : Nat} {G : Hp → Prop} {Y : Nat → Hp → V → Hp → Prop} (wk : Walk J n G Y) {H0 : Hp} (Pv : Nat → Hp → Prop) (h0 : Pv 0 H0) (hG : ∀ i H, i ≤ n → Pv i H → G H) {B : V → Hp → (Hp → Prop) → Prop}
    (hs : ∀ i x H H', i < n → Pv i H → Y i H x H' → B x H' (Pv (i + 1))) {En : Hp → Prop} (hd : ∀ H, Pv n H → En H) :
    ∃ W : Nat → Nat → Hp → Prop, (∃ m, W 0 m H0) ∧ ∀ i m H, W i m H → (J.stop i H ∧ En H) ∨ (J.go i H ∧ ∃ Nx : Hp → Prop, (∀ H', Nx H' → ∃ m', m' < m ∧ W (i + 1) m' H') ∧ ∀ x H', J.yld i H x H' → B x H' Nx) := by
  refine ⟨fun i m H => m = n - i ∧ i ≤ n ∧ Pv i H, ⟨n, by simp, Nat.zero_le _, h0⟩, fun i m H ⟨em, hi, p⟩ => ?_⟩
  subst em
  have q := hG i H hi p
  rcases Nat.lt_or_ge i n with hlt | hge
  · exact .inr ⟨wk.goes i H hlt q, Pv (i + 1), fun H' p' => ⟨n - (i + 1), by omega, rfl, hlt, p'⟩, fun x H' y => hs i x H H' hlt p (wk.yields i H x H' hlt q y)⟩
  · have e : i = n := by omega
    subst e
    exact .inl ⟨wk.stops H q, hd H p⟩
end
/-- as IterOk, with less asked of the later states -/
def IterOkL (K : PySem.W.Frag) (C : Cfg) (w : Ws) (J : It) (ds : List D) : Prop :=
  ds.length ≤ sizeLine ∧ ∃ (G : Hp → Prop) (Y : Nat → Hp → V → Hp → Prop), Walk J ds.length G Y ∧ ∀ w2 : Ws, Le w w2 → RelC K C w2 → G w2.H ∧
    ∀ (i : Nat) (d : D) (x : V) (H3 : Hp), ds[i]? = some d → Y i w2.H x H3 → ∃ w3 : Ws, w3.H = H3 ∧ w3.σ = w2.σ ∧ w3.ε = w2.ε ∧ w3.S = w2.S ∧ Mono w2 w3 ∧ RelC K C w3 ∧ w3.Rep K d x
def tIL (K : PySem.W.Frag) (C : Cfg) (f : ES (List D)) : TI := fun σ H R => ∃ w : Ws, w.σ = σ ∧ w.H = H ∧ RelC K C w ∧ POST K C w (f w.ε w.S) fun ds w' => ∀ J, IterOkL K C w' J ds → R J w'.H
def DIL (X : Cx) (C : Cfg) (tg e : Expr) (f : ES (List D)) : Prop := PI X tg e (tIL X.K C f)
section
variable {K : PySem.W.Frag} {C : Cfg} {w : Ws} {ds : List D} {a : Addr} {vs : List V}
theorem iterL_lst (r : RelC K C w) (h1 : FzL K w.Z w.H a vs) (h2 : w.Reps K ds vs) : IterOkL K C w (Itl K a) ds := by
  have hl := Reps.length h2
  refine ⟨by rw [← hl]; exact r.fzLen h1, fun H => SqL K H a vs, YAt vs, hl ▸ walk_list, fun w2 m r2 => ⟨(m.fzL h1).sq, fun i d x H3 hd hy => ?_⟩⟩
  obtain ⟨e, hx⟩ := hy
  subst e
  obtain ⟨v, k1, k2⟩ := Reps.get h2 hd
  rw [k1] at hx
  cases hx
  exact ⟨w2, rfl, rfl, rfl, rfl, Mono.refl w2, r2, Rep.mono m d _ k2⟩
theorem iterL_tup (r : RelC K C w) (h1 : TpT K w.H a vs) (h2 : w.Reps K ds vs) : IterOkL K C w (Itt K a) ds := by
  have hl := Reps.length h2
  refine ⟨by rw [← hl]; exact r.tpLen h1, fun H => SqT K H a vs, YAt vs, hl ▸ walk_tup, fun w2 m r2 => ⟨(m.sqT h1).sq, fun i d x H3 hd hy => ?_⟩⟩
  obtain ⟨e, hx⟩ := hy
  subst e
  obtain ⟨v, k1, k2⟩ := Reps.get h2 hd
  rw [k1] at hx
  cases hx
  exact ⟨w2, rfl, rfl, rfl, rfl, Mono.refl w2, r2, Rep.mono m d _ k2⟩
theorem iterL_rng {lo : Int} {n : Nat} (hn : n ≤ sizeLine) (r : RelC K C w) : IterOkL K C w (Itr lo n) (rngD lo n) := by
  have hl : (rngD lo n).length = n := by unfold rngD; rw [List.length_map, List.length_range]
  refine ⟨by rw [hl]; exact hn, fun _ => True, YFn fun i => .int (lo + i), by rw [hl]; exact walk_range, fun w2 m r2 => ⟨trivial, fun i d x H3 hd hy => ?_⟩⟩
  obtain ⟨e, hx⟩ := hy
  subst e; subst hx
  unfold rngD at hd
  rw [List.getElem?_map] at hd
  cases hi : (List.range n)[i]? with
  | none => rw [hi] at hd; cases hd
  | some j =>
    rw [hi] at hd
    have ej : i = j := by
      obtain ⟨h1, h2⟩ := List.getElem?_eq_some_iff.mp hi
      simpa using h2
    cases hd
    subst ej
    exact ⟨w2, rfl, rfl, rfl, rfl, Mono.refl w2, r2, by simp⟩
end
/-- a list's or a tuple's items -/
def seqLT : D → Option (List D)
  | .lst ds => some ds
  | .tup ds => some ds
  | _ => none
def iSeqLT (f : ES D) : ES (List D) := fun ε S => (f ε S).bind fun d ε S => R.opt (seqLT d) ε S
theorem dil_seq {X : Cx} {C : Cfg} {tg e : Expr} {f : ES D} (h : DE X C e f) : DIL X C tg e (iSeqLT f) := PI_imp (pi_seqV h) fun σ H P0 ⟨w, e1, e2, rl, q⟩ => by
  refine ⟨w, e1, e2, rl, POST.mono (POST.bind q) fun d w1 s1 m1 r1 ⟨_, _, _, q1⟩ v hv => ?_⟩
  obtain ⟨ds, hd, q2⟩ := POST.opt q1
  unfold seqLT at hd
  split at hd
  · cases hd
    obtain ⟨a, vs, e, h1, h2⟩ := rep_lst.mp hv
    exact .inl ⟨a, e, ⟨vs, h1.sq⟩, POST.now r1 q2 _ (iterL_lst r1 h1 h2)⟩
  · cases hd
    obtain ⟨a, vs, e, h1, h2⟩ := rep_tup.mp hv
    exact .inr (.inl ⟨a, e, ⟨vs, h1.sq⟩, POST.now r1 q2 _ (iterL_tup r1 h1 h2)⟩)
  · cases hd
theorem iSeqLT_ok {f : ES D} {ε ε1 : EV} {S S1 : Sto} {x : D} {ds : List D} (h : f ε S = .ok x ε1 S1) (h2 : seqLT x = some ds) : iSeqLT f ε S = .ok ds ε1 S1 := by unfold iSeqLT; rw [h]; dsimp only [R.bind]; rw [h2]; rfl
theorem dil_range1 {X : Cx} {C : Cfg} {tg a : Expr} {p pos : Pos} {fa : ES (List D)} (ha : DA X C [a] fa) (hm : X.mg "range" = none) (hl : ∀ (ε : EV) (S : Sto) ds ε' S', fa ε S = .ok ds ε' S' → ds.length = 1) (hg : Gl X "range" := by rfl) (hs : starEach [a] X.env = [(false, eval a X.env)] := by rfl) :
    DIL X C tg (.Call (.Name "range" p) [a] [] pos) (iRange fa) := PI_imp (pi_range1 hg hm ha hs) fun σ H P0 ⟨w, e1, e2, rl, q⟩ => by
  subst e1; subst e2
  refine ⟨w, rfl, rfl, rl, ?_⟩
  unfold iRange at q
  cases hr : fa w.ε w.S with
  | ok ds ε S =>
    rw [hr] at q
    have h1 := hl _ _ _ _ _ hr
    intro w1 k1 k2 k3 m1 r1 vs hv
    dsimp only [DL.R.bind] at q
    split at q
    · rename_i j
      by_cases hz : rngOk 0 j = true
      · rw [if_pos hz] at q
        obtain ⟨v, e, hv1⟩ := reps1 hv
        obtain ⟨_, _, b1, b2, b3⟩ := rngOk_iff hz
        rw [rep_int] at hv1
        refine ⟨j, by rw [e, hv1], b1, b2, ?_⟩
        have q2 := POST.at q m1 r1 k1 k2 k3
        exact q2 _ (iterL_rng (by simpa using b3) r1)
      · rw [if_neg hz] at q; exact q.elim
    · simp at h1
    · exact q.elim
  | ex c ε S => rw [hr] at q; exact q
  | stuck => rw [hr] at q; exact q
section
variable {K : PySem.W.Frag} {C : Cfg} {g1 : GS} {t1 : ES Bool} {f : ES D} {us1 vs1 : List Nat} {Kt : List D → EV → Sto → Prop}
/-- the inner loop -/
theorem lc_inner (hu : ∀ i ∈ us1, i ∈ vs1) (hK : ∀ acc ε S, Kt acc ε S → acc.length ≤ sizeLine) {w0 w6 : Ws} {B : Addr} (r0 : RelC K C w0) (h0 : w0.H B = none) (m06 : Mono w0 w6) (r6 : RelC K C w6) {acc0 : List D} {xs0 : List V}
    (l6 : Lone w6 B) (hB6 : w6.H B = some (.lst xs0)) (ha6 : w6.Reps K acc0 xs0) {J : It} {ds : List D} (hJ : IterOkL K C.no w6 J ds) (hc : CF Kt (lcL g1 t1 f vs1 ds (wipeE w6.ε vs1) w6.S) acc0) {Nx : Hp → Prop}
    (hE : ∀ (w7 : Ws) (acc : List D) (xs : List V), w7.σ = L2.wipe w6.σ vs1 → Mono w0 w7 → Le w6 w7 → RelC K C w7 → w7.H B = some (.lst xs) → w7.Reps K acc xs → Lone w7 B → Kt acc w7.ε w7.S → Nx w7.H) :
    ∃ W1 : Nat → Nat → Hp → Prop, (∃ m, W1 0 m w6.H) ∧ ∀ j k H, W1 j k H →
      (J.stop j H ∧ Nx H) ∨ (J.go j H ∧ ∃ Nx1 : Hp → Prop, (∀ H', Nx1 H' → ∃ k', k' < k ∧ W1 (j + 1) k' H') ∧ ∀ x H', J.yld j H x H' → tGG K C.no us1 g1 x (L2.wipe w6.σ vs1) H' fun σ3 H5 => L2.wipe σ3 vs1 = L2.wipe w6.σ vs1 ∧ tT K C.no t1 σ3 H5 fun b H6 =>
        if b = true then tE K C.no f σ3 H6 fun y H7 => ∃ acc, H7 B = some (.lst acc) ∧ acc.length < sizeLine ∧ Nx1 (upd H7 B (.lst (acc ++ [y]))) else Nx1 H6) := by
  obtain ⟨hz, G, Y, hw, hY⟩ := hJ
  refine walk_go hw (fun j H' => ∃ (w7 : Ws) (acc : List D) (xs : List V), w7.H = H' ∧ w7.σ = L2.wipe w6.σ vs1 ∧ Mono w0 w7 ∧ Le w6 w7 ∧ RelC K C w7 ∧ H' B = some (.lst xs) ∧ w7.Reps K acc xs ∧ Lone w7 B ∧ CF Kt (lcL g1 t1 f vs1 (ds.drop j) w7.ε w7.S) acc)
    ?_ (fun j H' _ ⟨w7, _, _, h2, _, _, m7, r7, _⟩ => h2 ▸ (hY w7 m7 r7.no).1) (B := fun x H' N => tGG K C.no us1 g1 x (L2.wipe w6.σ vs1) H' fun σ3 H5 => L2.wipe σ3 vs1 = L2.wipe w6.σ vs1 ∧ tT K C.no t1 σ3 H5 fun b H6 =>
        if b = true then tE K C.no f σ3 H6 fun y H7 => ∃ acc, H7 B = some (.lst acc) ∧ acc.length < sizeLine ∧ N (upd H7 B (.lst (acc ++ [y]))) else N H6) (fun j x H2 H3 hj hP hy => ?_) (fun H2 hP => ?_)
  · obtain ⟨mw, rw'⟩ := r6.wipe vs1
    exact ⟨{ w6 with ε := wipeE w6.ε vs1, σ := L2.wipe w6.σ vs1 }, acc0, xs0, rfl, rfl, m06.trans mw, mw.le r6.r, rw', hB6, Reps.mono (mw.le r6.r) acc0 xs0 ha6, (l6.next hB6 mw).1, hc⟩
  · obtain ⟨w2, acc, xs, h2, hσ2, m02, m2, r2, hBx, hacc, hl2, hfin⟩ := hP
    obtain ⟨hd, hdr⟩ := drop_at hj
    subst h2
    obtain ⟨w3, k1, k2, k3, k4, m3, r3, hx⟩ := (hY w2 m2 r2.no).2 j _ x H3 hd hy
    rw [hdr] at hfin
    obtain ⟨ε4, S4, k, ε5, S5, hg, ht, hF, hT⟩ := hfin.step
    obtain ⟨l3, hB3⟩ := hl2.next hBx m3
    refine ⟨w3, ds[j], k2.trans hσ2, k1, r3, hx, ?_⟩
    rw [k3, k4, hg]
    intro w4 j1 j2 sm m4 r4
    obtain ⟨l4, hB4⟩ := l3.next hB3 m4
    have w4s : L2.wipe w4.σ vs1 = L2.wipe w6.σ vs1 := by
      have e := wipe_sam sm hu
      rw [k2, hσ2] at e
      exact e.trans (wipe_sam (us := vs1) (vs := vs1) ⟨wipe_length _ _, fun j hj => wipe_other hj⟩ fun _ h => h)
    refine ⟨w4s, w4, rfl, rfl, r4, ?_⟩
    rw [j1, j2, ht]
    intro w5 i1 i2 i3 m5 r5
    obtain ⟨l5, hB5⟩ := l4.next hB4 m5
    have w5s : L2.wipe w5.σ vs1 = L2.wipe w6.σ vs1 := by rw [i3]; exact w4s
    have m25 : Mono w2 w5 := (m3.trans m4).trans m5
    cases k with
    | false =>
      rw [if_neg Bool.false_ne_true]
      obtain ⟨mw, rw'⟩ := r5.yes.wipe vs1
      refine ⟨{ w5 with ε := wipeE w5.ε vs1, σ := L2.wipe w5.σ vs1 }, acc, xs, rfl, w5s, (m02.trans m25).trans mw, m2.trans ((m25.trans mw).le r2.r), rw', hB5, Reps.mono ((m25.trans mw).le r2.r) acc xs hacc, (l5.next hB5 mw).1, ?_⟩
      have := hF rfl
      rw [← i1, ← i2] at this
      exact this
    | true =>
      rw [if_pos rfl]
      obtain ⟨y, ε6, S6, hf, hfin'⟩ := hT rfl
      refine ⟨w5, i3, rfl, r5, ?_⟩
      rw [i1, i2, hf]
      intro w8 n1 n2 n3 m8 r8 v hv
      obtain ⟨l8, hB8⟩ := l5.next hB5 m8
      have hz' : xs.length < sizeLine := by
        have h1 := hfin'.len hK
        rw [List.length_append, List.length_singleton] at h1
        have h2 := Reps.length hacc
        omega
      refine ⟨xs, hB8, hz', ?_⟩
      have m28 : Mono w2 w8 := m25.trans m8
      obtain ⟨r9, m09, le9, l9⟩ := RelC.alter (o' := .lst (xs ++ [v])) r8.yes r0 (m02.trans m28) h0 l8 hB8 (fun z => z) (by show (xs ++ [v]).length ≤ _; rw [List.length_append]; exact hz')
      obtain ⟨mw, rw'⟩ := r9.wipe vs1
      refine ⟨{ (w8.lay B (.lst (xs ++ [v]))) with ε := wipeE w8.ε vs1, σ := L2.wipe w8.σ vs1 }, acc ++ [y], xs ++ [v], rfl, ?_, m09.trans mw, m2.trans (((m28.le r2.r).trans le9).trans (mw.le r9.r)), rw', upd_same, ?_, (l9.next upd_same mw).1, ?_⟩
      · show L2.wipe w8.σ vs1 = _
        rw [n3]; exact w5s
      · have le : Le w2 { (w8.lay B (.lst (xs ++ [v]))) with ε := wipeE w8.ε vs1, σ := L2.wipe w8.σ vs1 } := ((m28.le r2.r).trans le9).trans (mw.le r9.r)
        exact Reps.append (Reps.mono le acc xs hacc) (Reps.one (Rep.mono (le9.trans (mw.le r9.r)) y v hv))
      · show CF Kt (lcL g1 t1 f vs1 (ds.drop (j + 1)) (wipeE w8.ε vs1) w8.S) _
        rw [n1, n2]
        exact hfin'
  · obtain ⟨w2, acc, xs, h2, hσ2, m02, m2, r2, hBx, hacc, hl2, hfin⟩ := hP
    rw [List.drop_length] at hfin
    subst h2
    have hfin : Kt (acc ++ []) w2.ε w2.S := hfin
    rw [List.append_nil] at hfin
    exact hE w2 acc xs hσ2 m02 m2 r2 hBx hacc hl2 hfin
end
/-! ### the outer loop -/
def LcFin2 (K : PySem.W.Frag) (C : Cfg) (w1 : Ws) (vs : List Nat) (P : MO → Ws → Prop) (r : R (List D)) (acc : List D) : Prop := CF (fun acc ε2 S2 => acc.length ≤ sizeLine ∧ POST K C w1 (.ok (.lst acc) (backE w1.ε ε2 vs) S2) P) r acc
section
variable {K : PySem.W.Frag} {C : Cfg} {w1 : Ws} {vs vs1 : List Nat} {P : MO → Ws → Prop} {g g1 : GS} {t t1 : ES Bool} {it1 : ES (List D)} {f : ES D}
theorem LcFin2.len {r : R (List D)} {acc : List D} (h : LcFin2 K C w1 vs P r acc) : acc.length ≤ sizeLine := CF.len (fun _ _ _ h => h.1) h
theorem LcFin2.step {d : D} {ds : List D} {ε : EV} {S : Sto} {acc : List D} (h : LcFin2 K C w1 vs P (lcL2 g t it1 g1 t1 f vs vs1 (d :: ds) ε S) acc) : ∃ ε1 S1 k ε2 S2, g d ε S = .ok () ε1 S1 ∧ t ε1 S1 = .ok k ε2 S2 ∧
    (k = false → LcFin2 K C w1 vs P (lcL2 g t it1 g1 t1 f vs vs1 ds (wipeE ε2 vs) S2) acc) ∧
    (k = true → ∃ ds1 ε3 S3, it1 ε2 S2 = .ok ds1 ε3 S3 ∧ CF (fun acc ε S => LcFin2 K C w1 vs P (lcL2 g t it1 g1 t1 f vs vs1 ds (wipeE ε vs) S) acc) (lcL g1 t1 f vs1 ds1 (wipeE ε3 vs1) S3) acc) := by
  unfold lcL2 at h
  cases hg : g d ε S with
  | ex c ε1 S1 => rw [hg] at h; exact False.elim h
  | stuck => rw [hg] at h; exact False.elim h
  | ok u ε1 S1 =>
    rw [hg] at h
    dsimp only [R.bind] at h
    cases ht : t ε1 S1 with
    | ex c ε2 S2 => rw [ht] at h; exact False.elim h
    | stuck => rw [ht] at h; exact False.elim h
    | ok k ε2 S2 =>
      rw [ht] at h
      dsimp only at h
      refine ⟨ε1, S1, k, ε2, S2, rfl, ht, fun hk => by subst hk; rw [if_neg Bool.false_ne_true] at h; exact h, fun hk => ?_⟩
      subst hk
      rw [if_pos rfl] at h
      cases hi : it1 ε2 S2 with
      | ex c ε3 S3 => rw [hi] at h; exact False.elim h
      | stuck => rw [hi] at h; exact False.elim h
      | ok ds1 ε3 S3 =>
        rw [hi] at h
        dsimp only at h
        refine ⟨ds1, ε3, S3, rfl, ?_⟩
        cases hl : lcL g1 t1 f vs1 ds1 (wipeE ε3 vs1) S3 with
        | ex c ε4 S4 => rw [hl] at h; exact False.elim h
        | stuck => rw [hl] at h; exact False.elim h
        | ok ys ε4 S4 =>
          rw [hl] at h
          dsimp only at h
          show LcFin2 K C w1 vs P (lcL2 g t it1 g1 t1 f vs vs1 ds (wipeE ε4 vs) S4) (acc ++ ys)
          cases hz : lcL2 g t it1 g1 t1 f vs vs1 ds (wipeE ε4 vs) S4 with
          | ex c ε5 S5 => rw [hz] at h; exact False.elim h
          | stuck => rw [hz] at h; exact False.elim h
          | ok zs ε5 S5 =>
            rw [hz] at h
            unfold LcFin2 CF at h ⊢
            dsimp only at h ⊢
            rw [List.append_assoc]
            exact h
end
section
variable {X : Cx} {C : Cfg} {elt tg iter tg1 iter1 : Expr} {ifs ifs1 : List Expr} {scope : Scope} {own : List (Str × Nat)} {pos : Pos} {it it1 : ES (List D)} {g g1 : GS} {t t1 : ES Bool} {f : ES D} {us us1 vs1 : List Nat}
theorem lc2_of (hu : ∀ i ∈ us, i ∈ own.map (·.2)) (hu1 : ∀ i ∈ us1, i ∈ vs1) (hv1 : ∀ i ∈ vs1, i ∈ own.map (·.2)) : ∀ σ H Q, tF X.K C (eComp2 it g t it1 g1 t1 f (own.map (·.2)) vs1) σ H Q →
    tLc2 (tI X.K C it) (tGG X.K C.no us g) (tT X.K C.no t) (tIL X.K C.no it1) (tGG X.K C.no us1 g1) (tT X.K C.no t1) (tE X.K C.no f) (own.map (·.2)) vs1 σ H Q := fun σ H Q ⟨w, e1, e2, rl, q⟩ => by
  subst e1; subst e2
  generalize hvs : own.map (·.2) = vs at hu hv1 q ⊢
  refine ⟨w, rfl, rfl, rl, POST.mono (POST.bind q) fun ds w1 s1 m1 r1 ⟨_, _, _, q1⟩ J hJ B hB => ?_⟩
  obtain ⟨hz, G, Y, hw, hY⟩ := hJ
  have h0 : LcFin2 X.K C w1 vs (qF X.K w.H Q) (lcL2 g t it1 g1 t1 f vs vs1 ds (wipeE w1.ε vs) w1.S) [] := by
    revert q1
    cases lcL2 g t it1 g1 t1 f vs vs1 ds (wipeE w1.ε vs) w1.S with
    | ok ys ε2 S2 =>
      intro q1
      dsimp only [R.noex, R.bind] at q1
      by_cases hl : ys.length ≤ sizeLine
      · rw [if_pos hl] at q1; exact ⟨hl, q1⟩
      · rw [if_neg hl] at q1; exact q1.elim
    | ex c ε2 S2 => exact fun q1 => q1
    | stuck => exact fun q1 => q1
  rw [← s1]
  refine walk_go hw (fun i H' => ∃ (w2 : Ws) (acc : List D) (xs : List V), w2.H = H' ∧ w2.σ = wipe w1.σ vs ∧ Mono w1 w2 ∧ RelC X.K C w2 ∧ H' B = some (.lst xs) ∧ w2.Reps X.K acc xs ∧ Lone w2 B ∧
    LcFin2 X.K C w1 vs (qF X.K w.H Q) (lcL2 g t it1 g1 t1 f vs vs1 (ds.drop i) w2.ε w2.S) acc) ?_ (fun i H' _ ⟨w2, _, _, h2, _, m2, r2, _⟩ => h2 ▸ (hY w2 m2 r2).1)
    (B := fun x H' Nx => tGG X.K C.no us g x (wipe w1.σ vs) H' fun σ2 H2 => wipe σ2 vs = wipe w1.σ vs ∧ tT X.K C.no t σ2 H2 fun b H3 =>
      if b = true then tIL X.K C.no it1 σ2 H3 fun J1 H4 => ∃ W1 : Nat → Nat → Hp → Prop, (∃ m, W1 0 m H4) ∧ ∀ j k H, W1 j k H →
        (J1.stop j H ∧ Nx H) ∨ (J1.go j H ∧ ∃ Nx1 : Hp → Prop, (∀ H', Nx1 H' → ∃ k', k' < k ∧ W1 (j + 1) k' H') ∧ ∀ x H', J1.yld j H x H' → tGG X.K C.no us1 g1 x (wipe σ2 vs1) H' fun σ3 H5 => wipe σ3 vs1 = wipe σ2 vs1 ∧ tT X.K C.no t1 σ3 H5 fun b H6 =>
          if b = true then tE X.K C.no f σ3 H6 fun y H7 => ∃ acc, H7 B = some (.lst acc) ∧ acc.length < sizeLine ∧ Nx1 (upd H7 B (.lst (acc ++ [y]))) else Nx1 H6)
      else Nx H3) (fun i x H2 H3 hi hP hy => ?_) (fun H2 hP => ?_)
  · have ra : RelC X.K C (w1.lay B (.lst [])) := r1.lay hB (Nat.zero_le _)
    obtain ⟨mw, rw'⟩ := ra.wipe vs
    refine ⟨_, [], [], rfl, rfl, (Mono.lay hB).trans mw, rw', upd_same, by simp only [Ws.Reps, DL.Reps], ?_, h0⟩
    have l := Lone.of (o := HO.lst []) r1 hB
    exact (l.next upd_same mw).1
  · obtain ⟨w2, acc, xs, h2, hσ2, m2, r2, hBx, hacc, hl2, hfin⟩ := hP
    obtain ⟨hd, hdr⟩ := drop_at hi
    subst h2
    obtain ⟨w3, k1, k2, k3, k4, m3, r3, hx⟩ := (hY w2 m2 r2).2 i _ x H3 hd hy
    rw [hdr] at hfin
    obtain ⟨ε4, S4, k, ε5, S5, hg, ht, hF, hT⟩ := hfin.step
    obtain ⟨l3, hB3⟩ := hl2.next hBx m3
    refine ⟨w3, ds[i], k2.trans hσ2, k1, r3.no, hx, ?_⟩
    rw [k3, k4, hg]
    intro w4 j1 j2 sm m4 r4
    obtain ⟨l4, hB4⟩ := l3.next hB3 m4
    have w4s : wipe w4.σ vs = wipe w1.σ vs := by
      have e := wipe_sam sm hu
      rw [k2, hσ2] at e
      exact e.trans (wipe_sam (us := vs) (vs := vs) ⟨wipe_length _ _, fun j hj => wipe_other hj⟩ fun _ h => h)
    refine ⟨w4s, w4, rfl, rfl, r4, ?_⟩
    rw [j1, j2, ht]
    intro w5 i1 i2 i3 m5 r5
    obtain ⟨l5, hB5⟩ := l4.next hB4 m5
    have w5s : wipe w5.σ vs = wipe w1.σ vs := by rw [i3]; exact w4s
    have m25 : Mono w2 w5 := (m3.trans m4).trans m5
    cases k with
    | false =>
      rw [if_neg Bool.false_ne_true]
      obtain ⟨mw, rw'⟩ := r5.yes.wipe vs
      refine ⟨{ w5 with ε := wipeE w5.ε vs, σ := L2.wipe w5.σ vs }, acc, xs, rfl, w5s, (m2.trans m25).trans mw, rw', hB5, Reps.mono ((m25.trans mw).le r2.r) acc xs hacc, (l5.next hB5 mw).1, ?_⟩
      have := hF rfl
      rw [← i1, ← i2] at this
      exact this
    | true =>
      rw [if_pos rfl]
      obtain ⟨ds1, ε6, S6, hi1, hin⟩ := hT rfl
      refine ⟨w5, i3, rfl, r5, ?_⟩
      rw [i1, i2, hi1]
      intro w6 n1 n2 n3 m6 r6 J1 hJ1
      obtain ⟨l6, hB6⟩ := l5.next hB5 m6
      have m26 : Mono w2 w6 := m25.trans m6
      have s6 : w6.σ = w4.σ := n3.trans i3
      rw [← s6]
      rw [← n1, ← n2] at hin
      refine lc_inner hu1 (fun _ _ _ h => LcFin2.len h) r1 hB (m2.trans m26) r6.yes l6 hB6 (Reps.mono (m26.le r2.r) acc xs hacc) hJ1 hin fun w7 acc7 xs7 hσ7 m07 le7 r7 hB7 hacc7 l7 hk => ?_
      obtain ⟨mw, rw'⟩ := r7.wipe vs
      refine ⟨{ w7 with ε := wipeE w7.ε vs, σ := L2.wipe w7.σ vs }, acc7, xs7, rfl, ?_, m07.trans mw, rw', hB7, Reps.mono (mw.le r7.r) acc7 xs7 hacc7, (l7.next hB7 mw).1, hk⟩
      show L2.wipe w7.σ vs = _
      rw [hσ7, s6]
      exact (wipe_sam (us := vs1) (vs := vs) ⟨wipe_length _ _, fun j hj => wipe_other hj⟩ hv1).trans w4s
  · obtain ⟨w2, acc, xs, h2, hσ2, m2, r2, hBx, hacc, hl2, hfin⟩ := hP
    rw [List.drop_length] at hfin
    subst h2
    have hfin : (acc ++ []).length ≤ sizeLine ∧ POST X.K C w1 (.ok (.lst (acc ++ [])) (backE w1.ε w2.ε vs) w2.S) (qF X.K w.H Q) := hfin
    rw [List.append_nil] at hfin
    obtain ⟨r3, m3⟩ := RelC.back r1 m2 r2 hσ2
    refine POST.at hfin.2 m3 r3 rfl rfl rfl B (m1.dom B hB) ⟨hl2.z, hl2.ρ, fun h => ?_⟩ ⟨xs, hBx, hacc⟩ (fun _ _ z => nomatch z)
    obtain ⟨i, x, h1, h2⟩ := h
    rcases backE_some h1 with ⟨_, _, d, z⟩ | ⟨h3, h4⟩
    · cases z
    · exact hl2.own ⟨i, x, h4, by rw [hσ2, wipe_other h3]; exact h2⟩
variable {y : Str} {py spos : Pos}
theorem df_comp2 (hc : X.calm = true) (hN : X.N.Nodup) (hi : DI X C tg iter it) (ok : BlkOk X.N X.env.scope scope own)
    (hg : ∀ (s : Shared) (H : Hp) (C' : Addr) (cl : List (Str × Addr)) (fp : List Addr), DG (X.blk s H scope (compEnvC scope cl C' X.env) fp) C.no us tg g)
    (ht : ∀ (s : Shared) (H : Hp) (C' : Addr) (cl : List (Str × Addr)) (fp : List Addr), DTs (X.blk s H scope (compEnvC scope cl C' X.env) fp) C.no ifs t)
    (hi1 : ∀ (s : Shared) (H : Hp) (C' : Addr) (cl : List (Str × Addr)) (fp : List Addr), DIL (X.blk s H scope (compEnvC scope cl C' X.env) fp) C.no tg1 iter1 it1)
    (hg1 : ∀ (s : Shared) (H : Hp) (C' : Addr) (cl : List (Str × Addr)) (fp : List Addr), DG (X.blk s H scope (compEnvC scope cl C' X.env) fp) C.no us1 tg1 g1)
    (ht1 : ∀ (s : Shared) (H : Hp) (C' : Addr) (cl : List (Str × Addr)) (fp : List Addr), DTs (X.blk s H scope (compEnvC scope cl C' X.env) fp) C.no ifs1 t1)
    (he : ∀ (s : Shared) (H : Hp) (C' : Addr) (cl : List (Str × Addr)) (fp : List Addr), DE (X.blk s H scope (compEnvC scope cl C' X.env) fp) C.no elt f)
    (hu : ∀ i ∈ us, i ∈ own.map (·.2) := by decide) (hu1 : ∀ i ∈ us1, i ∈ vs1 := by decide) (hv1 : ∀ i ∈ vs1, i ∈ own.map (·.2) := by decide) (hs : ∀ x, foldedSetIterable iter X.env x = pure x := by intro _; rfl) (hs1 : ∀ env x, foldedSetIterable iter1 env x = pure x := by intro _ _; rfl) :
    DF X C (.ListComp elt [⟨tg, iter, ifs, 0⟩, ⟨tg1, iter1, ifs1, 0⟩] scope pos) (eComp2 it g t it1 g1 t1 f (own.map (·.2)) vs1) :=
  PE_imp (pe_lc2 (wi := tI X.K C it) (g := tGG X.K C.no us g) (tt := tT X.K C.no t) (wi1 := tIL X.K C.no it1) (g1 := tGG X.K C.no us1 g1) (tt1 := tT X.K C.no t1) (te := tE X.K C.no f) hc hN hi ok hv1 hg ht hi1 hg1 ht1 he hs hs1) (lc2_of hu hu1 hv1)
theorem ds_setLc2 (i : Nat) (hc : X.calm = true) (hN : X.N.Nodup) (hi : DI X C tg iter it) (ok : BlkOk X.N X.env.scope scope own)
    (hg : ∀ (s : Shared) (H : Hp) (C' : Addr) (cl : List (Str × Addr)) (fp : List Addr), DG (X.blk s H scope (compEnvC scope cl C' X.env) fp) C.no us tg g)
    (ht : ∀ (s : Shared) (H : Hp) (C' : Addr) (cl : List (Str × Addr)) (fp : List Addr), DTs (X.blk s H scope (compEnvC scope cl C' X.env) fp) C.no ifs t)
    (hi1 : ∀ (s : Shared) (H : Hp) (C' : Addr) (cl : List (Str × Addr)) (fp : List Addr), DIL (X.blk s H scope (compEnvC scope cl C' X.env) fp) C.no tg1 iter1 it1)
    (hg1 : ∀ (s : Shared) (H : Hp) (C' : Addr) (cl : List (Str × Addr)) (fp : List Addr), DG (X.blk s H scope (compEnvC scope cl C' X.env) fp) C.no us1 tg1 g1)
    (ht1 : ∀ (s : Shared) (H : Hp) (C' : Addr) (cl : List (Str × Addr)) (fp : List Addr), DTs (X.blk s H scope (compEnvC scope cl C' X.env) fp) C.no ifs1 t1)
    (he : ∀ (s : Shared) (H : Hp) (C' : Addr) (cl : List (Str × Addr)) (fp : List Addr), DE (X.blk s H scope (compEnvC scope cl C' X.env) fp) C.no elt f)
    (hu : ∀ i ∈ us, i ∈ own.map (·.2) := by decide) (hu1 : ∀ i ∈ us1, i ∈ vs1 := by decide) (hv1 : ∀ i ∈ vs1, i ∈ own.map (·.2) := by decide) (hs : ∀ x, foldedSetIterable iter X.env x = pure x := by intro _; rfl) (hs1 : ∀ env x, foldedSetIterable iter1 env x = pure x := by intro _ _; rfl)
    (hy : X.N[i]? = some y := by rfl) (hyl : X.env.scope.names.lookup y = some .local := by rfl)
    (hsw : swapsWith (.ListComp elt [⟨tg, iter, ifs, 0⟩, ⟨tg1, iter1, ifs1, 0⟩] scope pos) (some (.Name y py)) spos.line X.env = pure true := by exact sw_true rfl rfl rfl (by decide +kernel)) :
    DS X C (.Assign [.Name y py] (.ListComp elt [⟨tg, iter, ifs, 0⟩, ⟨tg1, iter1, ifs1, 0⟩] scope pos) spos) (sSet i (eFrz (eComp2 it g t it1 g1 t1 f (own.map (·.2)) vs1))) :=
  PS_imp (ps_setLc2 (wi := tI X.K C it) (g := tGG X.K C.no us g) (tt := tT X.K C.no t) (wi1 := tIL X.K C.no it1) (g1 := tGG X.K C.no us1 g1) (tt1 := tT X.K C.no t1) (te := tE X.K C.no f) hc hN hy hyl hsw hi ok hv1 hg ht hi1 hg1 ht1 he hs hs1) fun E σ H h => lc2_of hu hu1 hv1 σ H _ (frz_sem (set_sem h))
end
end DL
namespace DL
open L2 PyProof.Rows PySem PySem.Spec
variable [TabT]
/-! ### dicts of ints and texts -/
def dSetV : List D → List D → D → D → List D
  | k :: ks, v :: vs, x, y => (if keq x k then y else v) :: dSetV ks vs x y
  | _, _, _, _ => []
/-- d[k] = v -/
def dPut (ks vs : List D) (k d : D) : List D × List D := if ks.any (keq k) then (ks, dSetV ks vs k d) else (ks ++ [k], vs ++ [d])
def mPutD : MO → D → D → Option MO
  | .dic false ks vs, k, d => if keyOkD false k && decide (vs.length < sizeLine) then some (.dic false (dPut ks vs k d).1 (dPut ks vs k d).2) else none
  | _, _, _ => none
section
variable {K : PySem.W.Frag} {Z : Addr → Prop} {ρ : List Addr} {H : Hp}
theorem keyD_of {k : D} (h : keyOkD false k = true) : ∃ kk, k = keyD kk := by
  cases k <;> simp [keyOkD] at h
  · exact ⟨.inl _, rfl⟩
  · exact ⟨.inr _, rfl⟩
theorem keq_keyD (a b : Key) : keq (keyD a) (keyD b) = decide (a = b) := by
  have ok : keyOkD false (keyD a) = true := by cases a <;> rfl
  by_cases e : a = b
  · subst e
    rw [decide_eq_true rfl]
    exact (keq_iff ok).mpr rfl
  · rw [decide_eq_false e]
    exact Bool.eq_false_iff.mpr fun z => e (keyD_inj ((keq_iff ok).mp z))
theorem any_keyD (kk : Key) : ∀ kvs : List (Key × V), (kvs.map fun p => keyD p.1).any (keq (keyD kk)) = kvs.any fun kv => decide (kv.1 = kk)
  | [] => rfl
  | p :: kvs => by
    rw [List.map_cons, List.any_cons, List.any_cons, any_keyD kk kvs, keq_keyD]
    congr 1
    by_cases e : kk = p.1
    · rw [decide_eq_true e, decide_eq_true e.symm]
    · rw [decide_eq_false e, decide_eq_false fun z => e z.symm]
theorem reps_setV {kk : Key} {d : D} {v : V} (hv : Rep K Z ρ H d v) : ∀ {kvs : List (Key × V)} {ds : List D}, Reps K Z ρ H ds (kvs.map (·.2)) → Reps K Z ρ H (dSetV (kvs.map fun p => keyD p.1) ds (keyD kk) d) ((kvs.map fun kv => if kv.1 = kk then (kv.1, v) else kv).map (·.2))
  | [], ds, h => by
    cases ds with
    | nil => simp [dSetV, DL.Reps]
    | cons _ _ => simp [DL.Reps] at h
  | p :: kvs, ds, h => by
    cases ds with
    | nil => simp [DL.Reps] at h
    | cons e ds =>
      simp only [List.map_cons, DL.Reps] at h
      obtain ⟨u, us, e1, h1, h2⟩ := h
      cases e1
      have ih := reps_setV (kk := kk) hv h2
      simp only [List.map_cons, dSetV, DL.Reps]
      rw [keq_keyD]
      by_cases z : p.1 = kk
      · rw [if_pos z, if_pos (decide_eq_true z.symm)]
        exact ⟨v, _, rfl, hv, ih⟩
      · rw [if_neg z, if_neg (by rw [decide_eq_false fun y => z y.symm]; exact Bool.false_ne_true)]
        exact ⟨p.2, _, rfl, h1, ih⟩
/-- what stands behind d[k] = v -/
theorem put_rep {kvs : List (Key × V)} {kk : Key} {ds : List D} {d : D} {v : V} (h : Reps K Z ρ H ds (kvs.map (·.2))) (hv : Rep K Z ρ H d v) :
    (dPut (kvs.map fun p => keyD p.1) ds (keyD kk) d).1 = (putK kvs kk v).map (fun p => keyD p.1) ∧ Reps K Z ρ H (dPut (kvs.map fun p => keyD p.1) ds (keyD kk) d).2 ((putK kvs kk v).map (·.2)) := by
  unfold dPut putK
  rw [any_keyD]
  by_cases a : (kvs.any fun kv => decide (kv.1 = kk)) = true
  · rw [if_pos a, if_pos a]
    refine ⟨?_, reps_setV hv h⟩
    rw [List.map_map]
    refine List.map_congr_left fun p _ => ?_
    show keyD p.1 = keyD (if p.1 = kk then (p.1, v) else p).1
    split <;> rfl
  · rw [if_neg a, if_neg a]
    refine ⟨by rw [List.map_append]; rfl, ?_⟩
    rw [List.map_append]
    exact reps_cat h (Reps.one hv)
theorem ok_putD : SetG K rSetD mPutD := fun Z ρ H p m di d i v m' Q sz ho hi hv hop g => by
  unfold mPutD at hop
  split at hop
  · rename_i ks ds k d
    obtain ⟨hl, e⟩ := ite_some hop
    subst e
    simp only [Bool.and_eq_true, decide_eq_true_eq] at hl
    obtain ⟨ws, hd, q⟩ := ho
    rcases hd with ⟨_, kvs, e, ek, ew⟩ | ⟨et, _⟩
    · subst ek; subst ew
      obtain ⟨kk, ekk⟩ := keyD_of hl.1
      subst ekk
      obtain rfl := rep_keyD.mp hi
      have len : kvs.length < sizeLine := by
        have := Reps.length q
        rw [List.length_map] at this
        omega
      obtain ⟨p1, p2⟩ := put_rep (kk := kk) q hv
      refine ⟨p, _, rfl, DPut.k e len, g _ ?_ ⟨(putK kvs kk v).map (·.2), .inl ⟨rfl, putK kvs kk v, rfl, p1, rfl⟩, p2⟩⟩
      show (putK kvs kk v).length ≤ sizeLine
      have := length_putK kvs kk v
      omega
    · cases et
  · cases hop
end
section
variable {X : Cx} {C : Cfg} {a b c e o : Expr} {fo fk fx : PF} {pos apos cpos : Pos}
/-! {} -/
def eDic0 : ES MO := fun ε S => .ok (.dic false [] []) ε S
theorem df_dic0 : DF X C (.Dict [] [] pos) eDic0 := PE_imp pe_dnewK fun σ H Q ⟨w, e1, e2, rl, q⟩ => by
  subst e1; subst e2
  intro p hp
  have r2 := rl.lay (o := .dK []) hp (Nat.zero_le _)
  have q2 := POST.at q (Mono.lay hp) r2 rfl rfl rfl
  exact q2 p hp (Lone.of rl hp) ⟨[], .inl ⟨rfl, [], upd_same, rfl, rfl⟩, by simp only [DL.Reps]⟩ (fun _ _ z => nomatch z)
/-! d.get(k, x) -/
def pGet2 (fo fk fx : PF) : PF := fun ε S => (fo ε S).bind fun m => (fk ε S).bind fun k => (fx ε S).bind fun x => match m with
  | .dic t ks vs => if keyOkD t k then some ((dLook ks vs k).getD x) else none
  | _ => none
theorem dp_get2 (hu : X.A.units + 1 < cLine) (ho : DP X C o fo) (hk : DP X C a fk) (hx : DP X C b fx) (m : M2 X o "get" apos a b cpos := by exact ⟨rfl, rfl, rfl, rfl⟩) :
    DP X C (.Call (.Attribute o "get" apos) [a, b] [] cpos) (pGet2 fo fk fx) := PE_imp (pe_dget2 hu ho hk hx m) fun σ H Q ⟨w, d, e1, e2, rl, hf, g⟩ => by
  subst e1; subst e2
  obtain ⟨dm, h1, hf⟩ := bind_some hf
  obtain ⟨dk, h2, hf⟩ := bind_some hf
  obtain ⟨dx, h3, hf⟩ := bind_some hf
  refine tP.then rl h1 fun u H1 N1 s1 r1 n1 hm => ?_
  cases dm with
  | dic t ks vs =>
    obtain ⟨hl, ed⟩ := ite_some hf
    subst ed
    simp only [DL.Rep] at hm
    obtain ⟨p, ws, eu, hz, hd, hr⟩ := hm
    subst eu
    have isd : ∀ H', Same H1 H' → DicAt H' p t ks ws := fun H' s => by
      rcases hd with ⟨et, kvs, e, ek, ew⟩ | ⟨et, kvs, e, ek, ew⟩
      · exact .inl ⟨et, kvs, s p _ e, ek, ew⟩
      · exact .inr ⟨et, kvs, s p _ e, ek, ew⟩
    refine ⟨p, rfl, ?_, ?_⟩
    · rcases hd with ⟨et, kvs, e, ek, ew⟩ | ⟨et, kvs, e, ek, ew⟩
      · exact .inl ⟨kvs, .inl e⟩
      · exact .inr ⟨kvs, .inl e⟩
    refine tP.then (w := w.gr H1 N1) r1 h2 fun y H2 N2 s2 r2 n2 hy => ?_
    refine tP.then (w := (w.gr H1 N1).gr H2 N2) r2 h3 fun z H3 N3 s3 r3 n3 hzv => ?_
    have sub1 : ∀ b, (w.gr H1 N1).ZL b → (((w.gr H1 N1).gr H2 N2).gr H3 N3).ZL b := fun b z => by
      rcases z with (z | z) | z
      · exact .inl (.inl (.inl (.inl z)))
      · exact .inl (.inl (.inl (.inr z)))
      · exact .inr z
    have sub2 : ∀ b, ((w.gr H1 N1).gr H2 N2).ZL b → (((w.gr H1 N1).gr H2 N2).gr H3 N3).ZL b := fun b z => by
      rcases z with z | z
      · exact .inl (.inl z)
      · exact .inr z
    have hr' := Reps.same (s2.trans s3) sub1 hr
    have hy' := Rep.same s3 sub2 hy
    have fin : ∀ d v, Rep X.K (((w.gr H1 N1).gr H2 N2).gr H3 N3).ZL w.ρ H3 d v → Grown X.K w.ZL w.ρ w.H d Q → Q v H3 := fun d v hv g => by
      refine g v H3 (fun b => (N1 b ∨ N2 b) ∨ N3 b) ((s1.trans s2).trans s3) r3.sz (grow2 (s1.trans s2) (grow2 s1 n1 s2 n2) s3 n3) ?_
      exact Rep.same (Same.refl _) (fun b z => by
        rcases z with ((z | z) | z) | z
        · rcases z with z | z
          · exact .inl (.inl z)
          · exact .inr (.inl (.inl z))
        · exact .inr (.inl (.inr z))
        · exact .inr (.inr z)
        · exact .inl (.inr z)) hv
    rcases dic_get (isd H3 (s2.trans s3)) hr' hl hy' with ⟨k1, k2⟩ | ⟨d', v, k1, k2, k3⟩
    · refine ⟨none, k2, ?_⟩
      rw [k1] at g
      exact fin dx z hzv g
    · refine ⟨some v, k2, ?_⟩
      rw [k1] at g
      exact fin d' v k3 g
  | _ => cases hf
/-! ### {fk: fv for g in it if t} -/
def dcL (g : GS) (t : ES Bool) (fk fv : ES D) (vs : List Nat) : List D → List D → List D → ES (List D × List D)
  | [], ks, ws, ε, S => .ok (ks, ws) ε S
  | d :: ds, ks, ws, ε, S => (g d ε S).bind fun _ ε S => (t ε S).bind fun b ε S =>
    if b then (fk ε S).bind fun k ε S => (fv ε S).bind fun v ε S =>
      if keyOkD false k && decide (ws.length < sizeLine) then dcL g t fk fv vs ds (dPut ks ws k v).1 (dPut ks ws k v).2 (wipeE ε vs) S else .stuck
    else dcL g t fk fv vs ds ks ws (wipeE ε vs) S
def eDComp (it : ES (List D)) (g : GS) (t : ES Bool) (fk fv : ES D) (vs : List Nat) : ES MO := fun ε S =>
  (it ε S).bind fun ds ε1 S => (R.noex (dcL g t fk fv vs ds [] [] (wipeE ε1 vs) S)).bind fun p ε2 S => .ok (.dic false p.1 p.2) (backE ε1 ε2 vs) S
def DcFin (K : PySem.W.Frag) (C : Cfg) (w1 : Ws) (vs : List Nat) (P : MO → Ws → Prop) (r : R (List D × List D)) : Prop := match r with
  | .ok p ε2 S2 => POST K C w1 (.ok (.dic false p.1 p.2) (backE w1.ε ε2 vs) S2) P
  | _ => False
section
variable {K : PySem.W.Frag} {C : Cfg} {w1 : Ws} {vs : List Nat} {P : MO → Ws → Prop} {g : GS} {t : ES Bool} {fk fv : ES D}
theorem DcFin.step {d : D} {ds ks ws : List D} {ε : EV} {S : Sto} (h : DcFin K C w1 vs P (dcL g t fk fv vs (d :: ds) ks ws ε S)) : ∃ ε1 S1 b ε2 S2, g d ε S = .ok () ε1 S1 ∧ t ε1 S1 = .ok b ε2 S2 ∧
    (b = false → DcFin K C w1 vs P (dcL g t fk fv vs ds ks ws (wipeE ε2 vs) S2)) ∧ (b = true → ∃ k ε3 S3 v ε4 S4, fk ε2 S2 = .ok k ε3 S3 ∧ fv ε3 S3 = .ok v ε4 S4 ∧ keyOkD false k = true ∧ ws.length < sizeLine ∧
      DcFin K C w1 vs P (dcL g t fk fv vs ds (dPut ks ws k v).1 (dPut ks ws k v).2 (wipeE ε4 vs) S4)) := by
  unfold dcL at h
  cases hg : g d ε S with
  | ex c ε1 S1 => rw [hg] at h; exact False.elim h
  | stuck => rw [hg] at h; exact False.elim h
  | ok u ε1 S1 =>
    rw [hg] at h
    dsimp only [R.bind] at h
    cases ht : t ε1 S1 with
    | ex c ε2 S2 => rw [ht] at h; exact False.elim h
    | stuck => rw [ht] at h; exact False.elim h
    | ok b ε2 S2 =>
      rw [ht] at h
      dsimp only at h
      refine ⟨ε1, S1, b, ε2, S2, rfl, ht, fun hk => by subst hk; rw [if_neg Bool.false_ne_true] at h; exact h, fun hk => ?_⟩
      subst hk
      rw [if_pos rfl] at h
      cases hf : fk ε2 S2 with
      | ex c ε3 S3 => rw [hf] at h; exact False.elim h
      | stuck => rw [hf] at h; exact False.elim h
      | ok k ε3 S3 =>
        rw [hf] at h
        dsimp only at h
        cases hv : fv ε3 S3 with
        | ex c ε4 S4 => rw [hv] at h; exact False.elim h
        | stuck => rw [hv] at h; exact False.elim h
        | ok v ε4 S4 =>
          rw [hv] at h
          dsimp only at h
          by_cases hl : (keyOkD false k && decide (ws.length < sizeLine)) = true
          · rw [if_pos hl] at h
            simp only [Bool.and_eq_true, decide_eq_true_eq] at hl
            exact ⟨k, ε3, S3, v, ε4, S4, rfl, hv, hl.1, hl.2, h⟩
          · rw [if_neg hl] at h; exact False.elim h
end
section
variable {kx vx tg iter : Expr} {ifs : List Expr} {scope : Scope} {own : List (Str × Nat)} {it : ES (List D)} {g : GS} {t : ES Bool} {fk' fv' : ES D} {us : List Nat}
theorem dc_of (hu : ∀ i ∈ us, i ∈ own.map (·.2)) : ∀ σ H Q, tF X.K C (eDComp it g t fk' fv' (own.map (·.2))) σ H Q → tDc (tI X.K C it) (tGG X.K C.no us g) (tT X.K C.no t) (tE X.K C.no fk') (tE X.K C.no fv') (own.map (·.2)) σ H Q := fun σ H Q ⟨w, e1, e2, rl, q⟩ => by
  subst e1; subst e2
  generalize hvs : own.map (·.2) = vs at hu q ⊢
  refine ⟨w, rfl, rfl, rl, POST.mono (POST.bind q) fun ds w1 s1 m1 r1 ⟨_, _, _, q1⟩ J hJ B hB => ?_⟩
  obtain ⟨hz, G, Y, hw, hY⟩ := hJ
  have h0 : DcFin X.K C w1 vs (qF X.K w.H Q) (dcL g t fk' fv' vs ds [] [] (wipeE w1.ε vs) w1.S) := by
    revert q1
    cases dcL g t fk' fv' vs ds [] [] (wipeE w1.ε vs) w1.S with
    | ok ys ε2 S2 => exact fun q1 => q1
    | ex c ε2 S2 => exact fun q1 => q1
    | stuck => exact fun q1 => q1
  rw [← s1]
  refine walk_go hw (fun i H' => ∃ (w2 : Ws) (ks ws : List D) (kvs : List (Key × V)), w2.H = H' ∧ w2.σ = wipe w1.σ vs ∧ Mono w1 w2 ∧ RelC X.K C w2 ∧ H' B = some (.dK kvs) ∧ ks = kvs.map (fun p => keyD p.1) ∧ w2.Reps X.K ws (kvs.map (·.2)) ∧ Lone w2 B ∧
    DcFin X.K C w1 vs (qF X.K w.H Q) (dcL g t fk' fv' vs (ds.drop i) ks ws w2.ε w2.S)) ?_ (fun i H' _ ⟨w2, _, _, _, h2, _, m2, r2, _⟩ => h2 ▸ (hY w2 m2 r2).1)
    (B := fun x H' Nx => tGG X.K C.no us g x (wipe w1.σ vs) H' fun σ2 H2 => wipe σ2 vs = wipe w1.σ vs ∧ tT X.K C.no t σ2 H2 fun b H3 =>
      if b = true then tE X.K C.no fk' σ2 H3 fun y H4 => tE X.K C.no fv' σ2 H4 fun z H5 => ∃ kvs k, y = kV k ∧ H5 B = some (.dK kvs) ∧ kvs.length < sizeLine ∧ Nx (upd H5 B (.dK (putK kvs k z))) else Nx H3) (fun i x H2 H3 hi hP hy => ?_) (fun H2 hP => ?_)
  · have ra : RelC X.K C (w1.lay B (.dK [])) := r1.lay hB (Nat.zero_le _)
    obtain ⟨mw, rw'⟩ := ra.wipe vs
    have l := Lone.of (o := HO.dK []) r1 hB
    exact ⟨{ (w1.lay B (.dK [])) with ε := wipeE w1.ε vs, σ := L2.wipe w1.σ vs }, [], [], [], rfl, rfl, (Mono.lay hB).trans mw, rw', upd_same, rfl, by simp only [Ws.Reps, List.map_nil, DL.Reps], (l.next upd_same mw).1, h0⟩
  · obtain ⟨w2, ks, ws, kvs, h2, hσ2, m2, r2, hBx, eks, hacc, hl2, hfin⟩ := hP
    obtain ⟨hd, hdr⟩ := drop_at hi
    subst h2
    obtain ⟨w3, k1, k2, k3, k4, m3, r3, hx⟩ := (hY w2 m2 r2).2 i _ x H3 hd hy
    rw [hdr] at hfin
    obtain ⟨ε4, S4, b, ε5, S5, hg, ht, hF, hT⟩ := hfin.step
    obtain ⟨l3, hB3⟩ := hl2.next hBx m3
    refine ⟨w3, ds[i], k2.trans hσ2, k1, r3.no, hx, ?_⟩
    rw [k3, k4, hg]
    intro w4 j1 j2 sm m4 r4
    obtain ⟨l4, hB4⟩ := l3.next hB3 m4
    have w4s : wipe w4.σ vs = wipe w1.σ vs := by
      have e := wipe_sam sm hu
      rw [k2, hσ2] at e
      exact e.trans (wipe_sam (us := vs) (vs := vs) ⟨wipe_length _ _, fun j hj => wipe_other hj⟩ fun _ h => h)
    refine ⟨w4s, w4, rfl, rfl, r4, ?_⟩
    rw [j1, j2, ht]
    intro w5 i1 i2 i3 m5 r5
    obtain ⟨l5, hB5⟩ := l4.next hB4 m5
    have w5s : wipe w5.σ vs = wipe w1.σ vs := by rw [i3]; exact w4s
    have m25 : Mono w2 w5 := (m3.trans m4).trans m5
    cases b with
    | false =>
      rw [if_neg Bool.false_ne_true]
      obtain ⟨mw, rw'⟩ := r5.yes.wipe vs
      refine ⟨{ w5 with ε := wipeE w5.ε vs, σ := L2.wipe w5.σ vs }, ks, ws, kvs, rfl, w5s, (m2.trans m25).trans mw, rw', hB5, eks, Reps.mono ((m25.trans mw).le r2.r) ws _ hacc, (l5.next hB5 mw).1, ?_⟩
      have := hF rfl
      rw [← i1, ← i2] at this
      exact this
    | true =>
      rw [if_pos rfl]
      obtain ⟨k, ε6, S6, v, ε7, S7, hfk, hfv, hok, hlen, hfin'⟩ := hT rfl
      refine ⟨w5, i3, rfl, r5, ?_⟩
      rw [i1, i2, hfk]
      intro w6 n1 n2 n3 m6 r6 y hyv
      obtain ⟨l6, hB6⟩ := l5.next hB5 m6
      refine ⟨w6, n3.trans i3, rfl, r6, ?_⟩
      rw [n1, n2, hfv]
      intro w7 p1 p2 p3 m7 r7 z hzv
      obtain ⟨l7, hB7⟩ := l6.next hB6 m7
      obtain ⟨kk, ekk⟩ := keyD_of hok
      subst ekk
      have m27 : Mono w2 w7 := (m25.trans m6).trans m7
      have hl' : kvs.length < sizeLine := by
        have := Reps.length hacc
        rw [List.length_map] at this
        omega
      refine ⟨kvs, kk, rep_keyD.mp hyv, hB7, hl', ?_⟩
      obtain ⟨r8, m18, le8, l8⟩ := RelC.alter (o' := .dK (putK kvs kk z)) r7.yes r1 (m2.trans m27) hB l7 hB7 (fun z => z) (by show (putK kvs kk z).length ≤ _; have := length_putK kvs kk z; omega)
      obtain ⟨mw, rw'⟩ := r8.wipe vs
      have le : Le w2 { (w7.lay B (.dK (putK kvs kk z))) with ε := wipeE w7.ε vs, σ := L2.wipe w7.σ vs } := ((m27.le r2.r).trans le8).trans (mw.le r8.r)
      obtain ⟨q1', q2'⟩ := put_rep (kk := kk) (Reps.mono le ws _ hacc) (Rep.mono (le8.trans (mw.le r8.r)) v z hzv)
      refine ⟨{ (w7.lay B (.dK (putK kvs kk z))) with ε := wipeE w7.ε vs, σ := L2.wipe w7.σ vs }, (dPut ks ws (keyD kk) v).1, (dPut ks ws (keyD kk) v).2, putK kvs kk z, rfl, ?_, m18.trans mw, rw', upd_same, ?_, ?_, (l8.next upd_same mw).1, ?_⟩
      · show L2.wipe w7.σ vs = _
        rw [p3, n3]; exact w5s
      · rw [eks]; exact q1'
      · rw [eks]; exact q2'
      · show DcFin X.K C w1 vs _ (dcL g t fk' fv' vs (ds.drop (i + 1)) _ _ (wipeE w7.ε vs) w7.S)
        rw [p1, p2]
        exact hfin'
  · obtain ⟨w2, ks, ws, kvs, h2, hσ2, m2, r2, hBx, eks, hacc, hl2, hfin⟩ := hP
    rw [List.drop_length] at hfin
    subst h2
    have hfin : POST X.K C w1 (.ok (.dic false ks ws) (backE w1.ε w2.ε vs) w2.S) (qF X.K w.H Q) := hfin
    obtain ⟨r3, m3⟩ := RelC.back r1 m2 r2 hσ2
    refine POST.at hfin m3 r3 rfl rfl rfl B (m1.dom B hB) ⟨hl2.z, hl2.ρ, fun h => ?_⟩ ⟨kvs.map (·.2), .inl ⟨rfl, kvs, hBx, eks, rfl⟩, hacc⟩ (fun _ _ z => nomatch z)
    obtain ⟨i, x, h1, h2⟩ := h
    rcases backE_some h1 with ⟨_, _, d, z⟩ | ⟨h3, h4⟩
    · cases z
    · exact hl2.own ⟨i, x, h4, by rw [hσ2, wipe_other h3]; exact h2⟩
theorem df_dcomp (hc : X.calm = true) (hN : X.N.Nodup) (hi : DI X C tg iter it) (ok : BlkOk X.N X.env.scope scope own)
    (hg : ∀ (s : Shared) (H : Hp) (C' : Addr) (cl : List (Str × Addr)) (fp : List Addr), DG (X.blk s H scope (compEnvC scope cl C' X.env) fp) C.no us tg g)
    (ht : ∀ (s : Shared) (H : Hp) (C' : Addr) (cl : List (Str × Addr)) (fp : List Addr), DTs (X.blk s H scope (compEnvC scope cl C' X.env) fp) C.no ifs t)
    (hk : ∀ (s : Shared) (H : Hp) (C' : Addr) (cl : List (Str × Addr)) (fp : List Addr), DE (X.blk s H scope (compEnvC scope cl C' X.env) fp) C.no kx fk')
    (he : ∀ (s : Shared) (H : Hp) (C' : Addr) (cl : List (Str × Addr)) (fp : List Addr), DE (X.blk s H scope (compEnvC scope cl C' X.env) fp) C.no vx fv')
    (hu : ∀ i ∈ us, i ∈ own.map (·.2) := by decide) (hs : ∀ x, foldedSetIterable iter X.env x = pure x := by intro _; rfl) : DF X C (.DictComp kx vx [⟨tg, iter, ifs, 0⟩] scope pos) (eDComp it g t fk' fv' (own.map (·.2))) :=
  PE_imp (pe_dc (wi := tI X.K C it) (g := tGG X.K C.no us g) (tt := tT X.K C.no t) (tk := tE X.K C.no fk') (tv := tE X.K C.no fv') hc hN hi ok hg ht hk he hs) (dc_of hu)
variable {y : Str} {py spos : Pos}
theorem swD_true {gs : List Comprehension} {l : Nat} {env : Env} (hk : env.scope.kind = .function) (hy : env.scope.names.lookup y = some .local) (hl : (py.line == pos.line) = true)
    (ha : (scope.names.any fun (n, k) => n == y && (k == .local || k == .cell)) = false) : swapsWith (.DictComp kx vx gs scope pos) (some (.Name y py)) l env = pure true := by
  have hb : env.blockKind = .function := by unfold Env.blockKind; rw [hk]; rfl
  unfold swapsWith; simp only [hb, show env.kindOf y = some .local from hy, ha, Expr.pos, hl]; rfl
theorem ps_setDc {i : Nat} {wi : TI} {gg : TG} {tt : TT} {tk tv : TE} (hc : X.calm = true) (hN : X.N.Nodup) (hy : X.N[i]? = some y) (hyl : X.env.scope.names.lookup y = some .local)
    (hsw : swapsWith (.DictComp kx vx [⟨tg, iter, ifs, 0⟩] scope pos) (some (.Name y py)) spos.line X.env = pure true) (hi : PI X tg iter wi) (ok : BlkOk X.N X.env.scope scope own)
    (hg : ∀ (s : Shared) (H : Hp) (C' : Addr) (cl : List (Str × Addr)) (fp : List Addr), PG (X.blk s H scope (compEnvC scope cl C' X.env) fp) tg gg)
    (ht : ∀ (s : Shared) (H : Hp) (C' : Addr) (cl : List (Str × Addr)) (fp : List Addr), PTs (X.blk s H scope (compEnvC scope cl C' X.env) fp) ifs tt)
    (hk : ∀ (s : Shared) (H : Hp) (C' : Addr) (cl : List (Str × Addr)) (fp : List Addr), PE (X.blk s H scope (compEnvC scope cl C' X.env) fp) kx tk)
    (he : ∀ (s : Shared) (H : Hp) (C' : Addr) (cl : List (Str × Addr)) (fp : List Addr), PE (X.blk s H scope (compEnvC scope cl C' X.env) fp) vx tv) (hs : ∀ x, foldedSetIterable iter X.env x = pure x) :
    PS X (.Assign [.Name y py] (.DictComp kx vx [⟨tg, iter, ifs, 0⟩] scope pos) spos) (tAsg (tDc wi gg tt tk tv (own.map (·.2))) (gName i)) := by
  refine ⟨fun pins s σ H D I h => ?_⟩
  rw [exec_Assign_Name_used _ _ _ _ hsw]
  refine wpAny_bind (wpAny_standAt (wpAny_bind (show wpAny _ X.A (do let _ ← comprehension (.DictComp kx vx [⟨tg, iter, ifs, 0⟩] scope pos) scope X.env (firstIterPos [⟨tg, iter, ifs, 0⟩] pos) newDict false (eval iter X.env) (some (assign (.Name y py) X.env))) _ _ s from ?_)))
  have h2 : tDc wi gg tt tk tv (own.map (·.2)) σ H (fun x H1 => gName i x σ H1 D.nx) := h
  refine wpAny_bind (thn (dc_core (Qf := fun _ s' => SP X pins D .next s') hc hN I hi ok hg ht hk he hs h2 fun L C' s' m H' I' q hn f => ?_) fun _ s' hq => wpAny_pure (wpAny_pure hq))
  obtain ⟨f0, f1, f2, f3, f4, f5⟩ := f
  refine wpAny_assign_Name (store_ok2 (v := V.ref L) I' hN hy (.inl hyl) rfl (fun s2 I2 ⟨a, sb, ha⟩ => ⟨m, hn.sameBut sb (ha.elim (fun z => by rw [z]; exact f1) fun z e => f4 y a z e.symm), fun h3 sb3 => ⟨_, H', I2.turned (t' := s2.toks) (fun b o hb e => (sb3.2 b hb).trans e) f0 f1 f3 f4 f5, q⟩⟩) (.inr hyl))
theorem ds_setDc (i : Nat) (hc : X.calm = true) (hN : X.N.Nodup) (hi : DI X C tg iter it) (ok : BlkOk X.N X.env.scope scope own)
    (hg : ∀ (s : Shared) (H : Hp) (C' : Addr) (cl : List (Str × Addr)) (fp : List Addr), DG (X.blk s H scope (compEnvC scope cl C' X.env) fp) C.no us tg g)
    (ht : ∀ (s : Shared) (H : Hp) (C' : Addr) (cl : List (Str × Addr)) (fp : List Addr), DTs (X.blk s H scope (compEnvC scope cl C' X.env) fp) C.no ifs t)
    (hk : ∀ (s : Shared) (H : Hp) (C' : Addr) (cl : List (Str × Addr)) (fp : List Addr), DE (X.blk s H scope (compEnvC scope cl C' X.env) fp) C.no kx fk')
    (he : ∀ (s : Shared) (H : Hp) (C' : Addr) (cl : List (Str × Addr)) (fp : List Addr), DE (X.blk s H scope (compEnvC scope cl C' X.env) fp) C.no vx fv')
    (hu : ∀ i ∈ us, i ∈ own.map (·.2) := by decide) (hs : ∀ x, foldedSetIterable iter X.env x = pure x := by intro _; rfl) (hy : X.N[i]? = some y := by rfl) (hyl : X.env.scope.names.lookup y = some .local := by rfl)
    (hsw : swapsWith (.DictComp kx vx [⟨tg, iter, ifs, 0⟩] scope pos) (some (.Name y py)) spos.line X.env = pure true := by exact swD_true rfl rfl rfl (by decide +kernel)) :
    DS X C (.Assign [.Name y py] (.DictComp kx vx [⟨tg, iter, ifs, 0⟩] scope pos) spos) (sSet i (eFrz (eDComp it g t fk' fv' (own.map (·.2))))) :=
  PS_imp (ps_setDc (wi := tI X.K C it) (gg := tGG X.K C.no us g) (tt := tT X.K C.no t) (tk := tE X.K C.no fk') (tv := tE X.K C.no fv') hc hN hy hyl hsw hi ok hg ht hk he hs) fun E σ H h => dc_of hu σ H _ (frz_sem (set_sem h))
theorem ds_ownDc (i : Nat) (hc : X.calm = true) (hN : X.N.Nodup) (hi : DI X C tg iter it) (ok : BlkOk X.N X.env.scope scope own)
    (hg : ∀ (s : Shared) (H : Hp) (C' : Addr) (cl : List (Str × Addr)) (fp : List Addr), DG (X.blk s H scope (compEnvC scope cl C' X.env) fp) C.no us tg g)
    (ht : ∀ (s : Shared) (H : Hp) (C' : Addr) (cl : List (Str × Addr)) (fp : List Addr), DTs (X.blk s H scope (compEnvC scope cl C' X.env) fp) C.no ifs t)
    (hk : ∀ (s : Shared) (H : Hp) (C' : Addr) (cl : List (Str × Addr)) (fp : List Addr), DE (X.blk s H scope (compEnvC scope cl C' X.env) fp) C.no kx fk')
    (he : ∀ (s : Shared) (H : Hp) (C' : Addr) (cl : List (Str × Addr)) (fp : List Addr), DE (X.blk s H scope (compEnvC scope cl C' X.env) fp) C.no vx fv')
    (hu : ∀ i ∈ us, i ∈ own.map (·.2) := by decide) (hs : ∀ x, foldedSetIterable iter X.env x = pure x := by intro _; rfl) (hy : X.N[i]? = some y := by rfl) (hyl : X.env.scope.names.lookup y = some .local := by rfl)
    (hsw : swapsWith (.DictComp kx vx [⟨tg, iter, ifs, 0⟩] scope pos) (some (.Name y py)) spos.line X.env = pure true := by exact swD_true rfl rfl rfl (by decide +kernel)) :
    DS X C (.Assign [.Name y py] (.DictComp kx vx [⟨tg, iter, ifs, 0⟩] scope pos) spos) (sOwn i (eDComp it g t fk' fv' (own.map (·.2)))) :=
  PS_imp (ps_setDc (wi := tI X.K C it) (gg := tGG X.K C.no us g) (tt := tT X.K C.no t) (tk := tE X.K C.no fk') (tv := tE X.K C.no fv') hc hN hy hyl hsw hi ok hg ht hk he hs) fun E σ H h => dc_of hu σ H _ (own_sem h)
end
end
/-! ### a name of the module, an int -/
section
variable {X : Cx} {C : Cfg} {pos : Pos} {x : Str} {i : Int}
theorem pe_globI (h : ∃ t, X.mg x = some (Value.int i t)) (hg : Gl X x) (hd : (x == ("__debug__" : Str)) = false) : PE X (.Name x pos) (tC (V.int i)) := by
  obtain ⟨t, e⟩ := h
  exact pe_glob hg e ⟨t, rfl⟩ hd
theorem de_globI (h : ∃ t, X.mg x = some (Value.int i t)) (hg : Gl X x := by rfl) (hd : (x == ("__debug__" : Str)) = false := by decide) : DE X C (.Name x pos) (eCst (.int i)) := de_cst (pe_globI h hg hd) fun w => by simp [DL.Rep]
theorem dp_globI (h : ∃ t, X.mg x = some (Value.int i t)) (hg : Gl X x := by rfl) (hd : (x == ("__debug__" : Str)) = false := by decide) : DP X C (.Name x pos) (pCst (.int i)) := dp_cst (pe_globI h hg hd) fun Z ρ H => by simp [DL.Rep]
end
end DL
namespace DL
open L2 PyProof.Rows PySem PySem.Spec
/-! ### t * k -/
theorem mul_one_meets (l : Addr) (items : Array Value) (n : Nat) (dd : Option Addr) (sl : Array (Option Value)) (u : Tok) (ne : (items.isEmpty || (1 : Int) == 1) = true) :
    Meets (Builtin.«tuple.__mul__» ⟨[.ref l, .int 1 u], []⟩) (fun _ R s => s.heap.get? l = some { cls := .type "tuple", dict := dd, data := .seq items n, slots := sl } ∧ R (.ok (.ret (Value.ref l))) s) :=
  .of_wp fun prog w A R s h => by
    obtain ⟨hp, g, d, tk, os⟩ := s
    obtain ⟨hl, h⟩ := h
    have f1 := AutoSeq1.idx_int
    wp_walk using wpAny_loadPart' hl
    repeat (first
      | (refine wpAny_ite_false (decide_eq_false (by decide)) ?_; wp_walk using wpAny_loadPart' hl)
      | (refine wpAny_ite_true (decide_eq_true ne) ?_; wp_walk using wpAny_loadPart' hl))
    exact ⟨_, rfl, h⟩
theorem mul_none_meets (l : Addr) (items : Array Value) (n : Nat) (dd : Option Addr) (sl : Array (Option Value)) (x : Int) (u : Tok) (b0 : (decide (x < -(2 ^ 63)) || decide (x ≥ 2 ^ 63)) = false) (b1 : (items.isEmpty || x == 1) = false) (b2 : (decide (x ≤ 0) || items.isEmpty) = true) :
    Meets (Builtin.«tuple.__mul__» ⟨[.ref l, .int x u], []⟩) (fun _ R s => s.heap.get? l = some { cls := .type "tuple", dict := dd, data := .seq items n, slots := sl } ∧
      R (.ok (.ret (Value.ref s.heap.objs.size))) { s with heap := s.heap.push { cls := Value.type "tuple", data := Data.seq #[] }, toks := s.toks }) :=
  .of_wp fun prog w A R s h => by
    obtain ⟨hp, g, d, tk, os⟩ := s
    obtain ⟨hl, h⟩ := h
    have f1 := AutoSeq1.idx_int
    have fit : ¬ (#[] : Array Value).size > sizeLine := by decide
    wp_walk using wpAny_loadPart' hl
    repeat (first
      | (refine wpAny_ite_false (decide_eq_false (ne_true_of_eq_false b0)) ?_; wp_walk using wpAny_loadPart' hl)
      | (refine wpAny_ite_false (decide_eq_false (ne_true_of_eq_false b1)) ?_; wp_walk using wpAny_loadPart' hl)
      | (refine wpAny_ite_true (decide_eq_true b2) ?_; wp_walk using wpAny_loadPart' hl)
      | (refine wpAny_ite_false (decide_eq_false fit) ?_; wp_walk using wpAny_loadPart' hl))
    exact ⟨_, rfl, h⟩
def rRep1 (K : PySem.W.Frag) : R2 := fun x y H Q => ∃ l xs, x = .ref l ∧ y = .int 1 ∧ SqT K H l xs ∧ Q (.ref l) H
def rRep0 (K : PySem.W.Frag) : R2 := fun x y H Q => ∃ l k xs, x = .ref l ∧ y = .int k ∧ SqT K H l xs ∧ xs ≠ [] ∧ k ≤ 0 ∧ -1000 ≤ k ∧ ∀ p, H p = none → Q (.ref p) (upd H p (.tup []))
section
variable {X : Cx}
theorem op_rep1 : OpR X (binaryOp .Mult) (rRep1 X.K) := by
  intro pins s σ H x y v u Q I rx ry h
  obtain ⟨l, xs, rfl, rfl, hT, q⟩ := h
  cases rx
  obtain ⟨t, rfl⟩ := ry
  obtain ⟨its, r, ⟨⟨cls, dd, data, sl⟩, ho, hc, n, hd⟩, hs⟩ := I.tuple hT
  simp only at hc hd
  subst hc hd
  exact wpAny_binaryOp_repeat_ref (T := "tuple") (U := "int") (by decide) ⟨_, ho, rfl⟩ (fun s' => typeIs_int s' 1 t) noFill_tuple_mul F.fills_int_mul F.slot_int_rmul repeat_tuple F.slot_int_index.lookup
    (call_meets F.slot_int_rmul (typeIs_int s 1 t) F.entry_int_rmul (F.args_int_rmul_2 _ _) (int_rmul_tuple 1 t l its.toArray n dd sl)
      ⟨ho, rfl, ⟨_, ho, rfl⟩, call_meets F.slot_tuple_mul ⟨_, ho, rfl⟩ F.entry_tuple_mul (F.args_tuple_mul_2 _ _) (mul_one_meets l its.toArray n dd sl t (by simp)) ⟨ho, .ref l, H, I, rfl, q⟩⟩)
theorem op_rep0 : OpR X (binaryOp .Mult) (rRep0 X.K) := by
  intro pins s σ H x y v u Q I rx ry h
  obtain ⟨l, k, xs, rfl, rfl, hT, hne, h1, h2, q⟩ := h
  cases rx
  obtain ⟨t, rfl⟩ := ry
  obtain ⟨its, r, ⟨⟨cls, dd, data, sl⟩, ho, hc, n, hd⟩, hs⟩ := I.tuple hT
  simp only at hc hd
  subst hc hd
  have hi : its.toArray.isEmpty = false := by
    cases its with
    | nil => exact absurd (List.eq_nil_of_length_eq_zero r.length) hne
    | cons a b => rfl
  have b0 : (decide (k < -(2 ^ 63)) || decide (k ≥ 2 ^ 63)) = false := by
    rw [decide_eq_false (show ¬ k < -(2 ^ 63) by omega), decide_eq_false (show ¬ k ≥ 2 ^ 63 by omega)]; rfl
  have b1 : (its.toArray.isEmpty || k == 1) = false := by rw [hi, Bool.false_or]; exact beq_eq_false_iff_ne.mpr (by omega)
  have b2 : (decide (k ≤ 0) || its.toArray.isEmpty) = true := by rw [decide_eq_true h1]; rfl
  refine wpAny_binaryOp_repeat_ref (T := "tuple") (U := "int") (by decide) ⟨_, ho, rfl⟩ (fun s' => typeIs_int s' k t) noFill_tuple_mul F.fills_int_mul F.slot_int_rmul repeat_tuple F.slot_int_index.lookup
    (call_meets F.slot_int_rmul (typeIs_int s k t) F.entry_int_rmul (F.args_int_rmul_2 _ _) (int_rmul_tuple k t l its.toArray n dd sl)
      ⟨ho, rfl, ⟨_, ho, rfl⟩, call_meets F.slot_tuple_mul ⟨_, ho, rfl⟩ F.entry_tuple_mul (F.args_tuple_mul_2 _ _) (mul_none_meets l its.toArray n dd sl k t b0 b1 b2) ⟨ho, ?_⟩⟩)
  exact ⟨.ref s.heap.objs.size, _, I.laid (t' := s.toks) (o := .tup []) (fun _ _ q => Heap.get?_push_of_some _ q) (Nat.le_refl _) ⟨Nat.zero_le _, [], .nil, IsTup.new _ _⟩, rfl, q _ (I.hok.fresh (Nat.le_refl _))⟩
end
variable [TabT]
def dMulT : D → D → Option D
  | .tup xs, .int k => if xs.isEmpty then none else if k = 1 then some (.tup xs) else if k ≤ 0 then (if -1000 ≤ k then some (.tup []) else none)
    else if decide (k ≤ 1000) && decide (xs.length ≤ 1000) then some (.tup (List.replicate k.toNat xs).flatten) else none
  | _, _ => none
theorem ok_mulT {K : PySem.W.Frag} : OpG K (fun x y H Q => rRepT K x y H Q ∨ (rRep1 K x y H Q ∨ rRep0 K x y H Q)) dMulT := fun Z ρ H x y dx dy d Q sz hx hy hd gr => by
  unfold dMulT at hd
  split at hd
  · rename_i xs k
    rw [rep_int] at hy
    obtain ⟨a, vs, e1, h1, r1⟩ := rep_tup.mp hx
    have l1 := r1.length
    split at hd
    · cases hd
    rename_i hemp
    have hne : vs ≠ [] := fun z => by
      subst z
      cases xs with
      | nil => exact hemp rfl
      | cons _ _ => simp at l1
    split at hd
    · rename_i hk
      cases hd
      subst hk
      exact .inr (.inl ⟨a, vs, e1, hy, h1.sq, gr.now sz (by rw [e1] at hx; exact hx)⟩)
    split at hd
    · rename_i hk
      obtain ⟨hl, e⟩ := ite_some hd
      subst e
      exact .inr (.inr ⟨a, k, vs, e1, hy, h1.sq, hne, hk, hl, fun p hp => gr.tup sz (vs := []) (by simp only [DL.Reps]) (Nat.zero_le _) hp⟩)
    · rename_i hk1 hk0
      obtain ⟨hl, e⟩ := ite_some hd
      subst e
      simp only [Bool.and_eq_true, decide_eq_true_eq] at hl
      refine .inl ⟨a, k, vs, e1, hy, h1.sq, hne, by omega, hl.1, by omega, fun p hp => gr.tup sz (Reps.rep r1 _) ?_ hp⟩
      rw [PyProof.Rows.lm_len_rep_flat, sizeLine_eq, l1]
      have := Nat.mul_le_mul (show k.toNat ≤ 1000 by omega) hl.2
      omega
  · cases hd
theorem op_mulT {X : Cx} : OpR X (binaryOp .Mult) (fun x y H Q => rRepT X.K x y H Q ∨ (rRep1 X.K x y H Q ∨ rRep0 X.K x y H Q)) := OpR_or op_repT (OpR_or op_rep1 op_rep0)
end DL
namespace DL
open L2 PyProof.Rows PySem PySem.Spec
/-! ### set(xs), whatever the items: what each adding keeps -/
section
variable {P : Program} {w : World} {A : Around} {E : Value → Shared → Prop} {s : Shared}
/-- each item may be added -/
def Adds (P : Program) (w : World) (A : Around) (h0 : Heap) (T : Addr) (its : List Value) (J : Nat → Heap → Prop) : Prop :=
  ∀ (A' : Around), A'.units ≤ A.units + 9 → ∀ (i : Nat) (v : Value) (s : Shared) (E' : Value → Shared → Prop) (Q : Bool → Shared → Prop), its[i]? = some v → J i s.heap → (∀ b o, h0.get? b = some o → s.heap.get? b = some o) →
    (∀ b h' tk, s.toks ≤ tk → Heap.SameBut T s.heap h' → J (i + 1) h' → Q b { s with heap := h', toks := tk }) → wpAny (model P w) A' (setAdd T v) Q E' s
theorem Adds.up {h0 : Heap} {T : Addr} {its : List Value} {J : Nat → Heap → Prop} (d : Adds P w A h0 T its J) (k : Nat) {B : Around} (hk : B.units ≤ A.units + k) (h3 : k ≤ 8 := by omega) : ∀ (i : Nat) (v : Value) (s : Shared) (E' : Value → Shared → Prop) (Q : Bool → Shared → Prop), its[i]? = some v → J i s.heap → (∀ b o, h0.get? b = some o → s.heap.get? b = some o) →
    (∀ b h' tk, s.toks ≤ tk → Heap.SameBut T s.heap h' → J (i + 1) h' → Q b { s with heap := h', toks := tk }) → wpAny (model P w) B (setAdd T v) Q E' s := d B (by omega)
theorem fill_gen {I : Addr} {fp wr : List Addr} {G : Array GenState → Array GenState → Prop} {n : Nat} {Pv : Nat → Value → Prop} {St : Nat → Shared → Prop} {R : Result → Shared → Prop}
    (W : WalksS P w A.in1 I fp wr G n Pv St) (T : Addr) (hT : T ∉ fp) (its : List Value) (hn : n = its.length) (hv : ∀ i v, Pv i v → its[i]? = some v) (h0 : Heap) (hT0 : h0.get? T = none)
    (hw0 : ∀ b ∈ wr, h0.get? b = none) (J : Nat → Heap → Prop)
    (fr : ∀ i h h', J i h → (∀ o, h.get? T = some o → h'.get? T = some o) → (∀ b o, h0.get? b = some o → h'.get? b = some o) → J i h')
    (add : ∀ (i : Nat) (v : Value) (s : Shared) (E' : Value → Shared → Prop) (Q : Bool → Shared → Prop), its[i]? = some v → J i s.heap → (∀ b o, h0.get? b = some o → s.heap.get? b = some o) →
      (∀ b h' tk, s.toks ≤ tk → Heap.SameBut T s.heap h' → J (i + 1) h' → Q b { s with heap := h', toks := tk }) → wpAny (model P w) A.in1 (setAdd T v) Q E' s) :
    ∀ (k i : Nat) (s : Shared), n - i = k → i ≤ n → St i s → (∀ b o, h0.get? b = some o → s.heap.get? b = some o) → J i s.heap →
      (∀ s', Moved (T :: wr) G s s' → (∀ b o, h0.get? b = some o → s'.heap.get? b = some o) → J n s'.heap → R (.ok (.ret .none)) s') →
      codeAny (model P w) A (.builtin "set.update.loop" ⟨[.ref T, .ref I], []⟩) R s := by
  have nW : T ∉ wr := fun z => hT (W.sub _ z)
  have up : ∀ b ∈ wr, b ∈ T :: wr := fun b hb => List.mem_cons_of_mem _ hb
  have old : ∀ {s1 s2 : Shared}, Moved wr G s1 s2 → (∀ b o, h0.get? b = some o → s1.heap.get? b = some o) → ∀ b o, h0.get? b = some o → s2.heap.get? b = some o := fun m kp b o e =>
    m.heap b o (fun z => by rw [hw0 b z] at e; cases e) (kp b o e)
  intro k
  induction k with
  | zero =>
    intro i s1 hk hi st kp j hR
    obtain rfl : i = n := by omega
    refine codeAny_builtin F.entry_set_update_loop ?_
    rw [Around.under_plainId F.plain_set_update_loop _]
    show wpAny _ A.in1 (pyNext (.ref I) >>= _) _ _ s1
    refine wpAny_bind (W.done s1 _ _ st fun s2 m => ?_)
    show wpAny _ A.in1 (ret Value.none) _ _ s2
    exact wpAny_pure (hR s2 (m.mono up) (old m kp) (fr _ _ _ j (fun o e => m.heap T o nW e) (old m kp)))
  | succ k ih =>
    intro i s1 hk hi st kp j hR
    have lt : i < n := by omega
    refine codeAny_builtin F.entry_set_update_loop ?_
    rw [Around.under_plainId F.plain_set_update_loop _]
    show wpAny _ A.in1 (pyNext (.ref I) >>= _) _ _ s1
    refine wpAny_bind (W.item i s1 _ _ lt st fun v s2 pv st2 m => ?_)
    have kp2 := old m kp
    have j2 : J i s2.heap := fr _ _ _ j (fun o e => m.heap T o nW e) kp2
    show wpAny _ A.in1 (holding [v] (setAdd T v) >>= _) _ _ s2
    refine wpAny_bind (wpAny_holding ?_)
    refine add i v s2 _ _ (hv i v pv) j2 kp2 fun b h' tk htk sb j3 => ?_
    have kp3 : ∀ c o, h0.get? c = some o → h'.get? c = some o := fun c o e => (sb.2 c (fun z => by rw [z, hT0] at e; cases e)).trans (kp2 c o e)
    refine wpAny_pure ⟨plainId_quiet F.plain_set_update_loop _, ih (i + 1) _ (by omega) lt (W.frame _ s2 _ _ st2 htk fun b hb o e => ?_) kp3 j3 fun s4 m4 kp4 j4 => ?_⟩
    · rw [sb.2 b (fun h : b = T => hT (by rw [← h]; exact hb))]; exact e
    · refine hR s4 (Moved.trans W.gtrans ((m.mono up).then_heap htk fun b o hb e => ?_) m4) kp4 j4
      rw [sb.2 b (fun h : b = T => hb (by rw [h]; exact List.mem_cons_self))]; exact e

theorem call_set_lstG {l : Addr} {xs : Array Value} {U : Value → Shared → Prop} (hh : A.handled = none) (hl : s.heap.IsList l xs) (J : Nat → Heap → Prop)
    (j0 : ∀ h', h'.get? s.heap.objs.size = some (emptyO w) → (∀ b o, s.heap.get? b = some o → h'.get? b = some o) → J 0 h')
    (fr : ∀ i h h', J i h → (∀ o, h.get? s.heap.objs.size = some o → h'.get? s.heap.objs.size = some o) → (∀ b o, s.heap.get? b = some o → h'.get? b = some o) → J i h')
    (add : Adds P w A s.heap s.heap.objs.size xs.toList J)
    (q : ∀ (h' : Heap) (tk : Nat), J xs.toList.length h' → (∀ b o, s.heap.get? b = some o → h'.get? b = some o) → U (.ref s.heap.objs.size) { s with heap := h', toks := tk }) :
    wpAny (model P w) A (call (.type "set") [.ref l]) U E s := by
  obtain ⟨cc, tt, hmro⟩ := PySem.F.called_set.mro
  have mkd := PySem.F.called_set.made
  have sbd := PySem.F.called_set.sub
  refine wpAny_call (codeAny_of_tree ?_)
  show wpAny _ _ (callAny (.type "set") _) _ _ _
  refine wpAny_pure ⟨Code.quiet_builtin _ (by decide +kernel),
    codeAny_builtin PySem.F.entry_type_call ?_⟩
  rw [Around.under_plain (weight_type_call_type "set" [.ref l] []) rfl]
  have n1 := PySem.F.called_set.notType
  have n2 := PySem.F.called_set.canCreate
  have n3 := PySem.F.typeCall_set_1 (.ref l)
  repeat (any_goals (first | assumption | wp_step))
  refine codeAny_mono (code_set_led1 (.ref l) (E := E)
    (Q₁ := fun ob sb => ob = .ref s.heap.objs.size ∧ sb = { s with heap := s.heap.push (emptyO w) }) ⟨rfl, rfl⟩) fun r sb hr => ?_
  cases r with
  | error e => exact hr
  | ok fl =>
    cases fl with
    | next => exact hr.elim
    | brk => exact hr.elim
    | cont => exact hr.elim
    | ret ob =>
      obtain ⟨rfl, rfl⟩ := hr
      have gS : (s.heap.push (emptyO w)).get? s.heap.objs.size = some (emptyO w) := Heap.get?_push_size _ rfl
      have tS : Shared.TypeIs { s with heap := s.heap.push (emptyO w) } (.ref s.heap.objs.size) "set" := ⟨_, gS, rfl⟩
      have i1 := PySem.F.called_set.init.lookup
      have i2 := PySem.F.called_set.init.bind (.ref s.heap.objs.size)
      repeat (any_goals (first | assumption | wp_step))
      refine codeAny_mono (codeAny_call_builtin (R := wants (fun r sc => r = .none ∧ ∃ h' tk, sc = { s with heap := h', toks := tk } ∧
          J xs.toList.length h' ∧ ∀ b o, s.heap.get? b = some o → h'.get? b = some o) E)
        PySem.F.called_set.init.plain PySem.F.entry_set_init (check_set_init_1 tS ?_)) fun r2 sc hr2 => ?_
      · obtain ⟨ol, gl, cl, nl, dl⟩ := hl
        obtain ⟨oc, od, oda, osl⟩ := ol
        simp only at cl dl
        subst cl; subst dl
        have gl2 : (s.heap.push (emptyO w)).get? l = some { cls := .type "list", dict := od, data := .seq xs nl, slots := osl } := Heap.get?_push_of_some _ gl
        have z1 := PySem.F.sub_list_set
        have z2 := PySem.F.sub_list_frozenset
        have z3 : (Value.type "list" == Value.type "dict") = false := by decide
        have L1 : (s.heap.push (emptyO w)).IsList l xs := ⟨_, gl2, rfl, nl, rfl⟩
        unfold Builtin.«set.__init__» noKeywords Builtin.Frozenset.updateFrom
        generalize hPI : pyIter = PI
        wp_walk
        subst hPI
        refine wpAny_pyIter_list L1 ?_
        refine wpAny_bind (wpAny_runValue ?_)
        have lS : l < s.heap.objs.size := Heap.lt_size gl
        have h3 : A.in1.in1.in1.handled = none := by simp [hh]
        have zz : (s.heap.push (emptyO w)).objs.size = s.heap.objs.size + 1 := Heap.size_push ..
        have ne1 : l ≠ (s.heap.push (emptyO w)).objs.size := by
          rw [zz]; exact Nat.ne_of_lt (Nat.lt_succ_of_lt lS)
        have nf : s.heap.objs.size ∉ [(s.heap.push (emptyO w)).objs.size, l] := by
          rw [zz]
          simp only [List.mem_cons, List.mem_singleton, List.not_mem_nil, or_false, not_or]
          exact ⟨Nat.ne_of_lt (Nat.lt_succ_self _), Nat.ne_of_gt lS⟩
        have noH : ∀ b, s.heap.objs.size ≤ b → s.heap.get? b = none := fun b hb => by
          cases z : s.heap.get? b with
          | none => rfl
          | some o => exact absurd (Nat.lt_of_lt_of_le (Heap.lt_size z) hb) (Nat.lt_irrefl _)
        refine fill_gen ((Walks.list h3 _ l ne1 xs).toS) s.heap.objs.size nf xs.toList (by rw [Array.length_toList]) (fun i v hv => by rw [Array.getElem?_toList]; exact hv) s.heap (noH _ (Nat.le_refl _))
          (fun b hb => noH b (by rw [List.mem_singleton.mp hb, zz]; exact Nat.le_succ _)) J fr (add.up 3 (Nat.le_refl _)) (xs.size - 0) 0 _ (by omega) (Nat.zero_le _)
          ⟨⟨_, Heap.get?_push_size _ rfl, rfl, rfl⟩, L1.push _⟩ (fun b o e => Heap.get?_push_of_some _ (Heap.get?_push_of_some _ e)) ?_ ?_
        · exact j0 _ (Heap.get?_push_of_some _ gS) fun b o e => Heap.get?_push_of_some _ (Heap.get?_push_of_some _ e)
        · intro se mv kp Re
          obtain ⟨h', g2, d', tk', os'⟩ := se
          have eg : g2 = s.gens := mv.gens
          have ed : d' = s.drawn := mv.drawn
          have eo : os' = s.os := mv.os
          subst eg; subst ed; subst eo
          show wpAny _ _ _ _ _ _
          refine wpAny_pure ?_
          show wpAny _ _ (ret Value.none) _ _ _
          rw [← Array.length_toList] at Re
          exact wpAny_pure ⟨rfl, h', tk', rfl, Re, kp⟩
      · cases r2 with
        | error e => exact hr2
        | ok f2 =>
          cases f2 with
          | ret v =>
            obtain ⟨rfl, h', tk, rfl, Re, kp⟩ := hr2
            repeat (any_goals (first | assumption | wp_step))
            exact q h' tk Re kp
          | next => exact hr2.elim
          | brk => exact hr2.elim
          | cont => exact hr2.elim

theorem call_set_tupG {l : Addr} {xs : Array Value} {U : Value → Shared → Prop} (hh : A.handled = none) (hl : s.heap.IsTuple l xs) (J : Nat → Heap → Prop)
    (j0 : ∀ h', h'.get? s.heap.objs.size = some (emptyO w) → (∀ b o, s.heap.get? b = some o → h'.get? b = some o) → J 0 h')
    (fr : ∀ i h h', J i h → (∀ o, h.get? s.heap.objs.size = some o → h'.get? s.heap.objs.size = some o) → (∀ b o, s.heap.get? b = some o → h'.get? b = some o) → J i h')
    (add : Adds P w A s.heap s.heap.objs.size xs.toList J)
    (q : ∀ (h' : Heap) (tk : Nat), J xs.toList.length h' → (∀ b o, s.heap.get? b = some o → h'.get? b = some o) → U (.ref s.heap.objs.size) { s with heap := h', toks := tk }) :
    wpAny (model P w) A (call (.type "set") [.ref l]) U E s := by
  obtain ⟨cc, tt, hmro⟩ := PySem.F.called_set.mro
  have mkd := PySem.F.called_set.made
  have sbd := PySem.F.called_set.sub
  refine wpAny_call (codeAny_of_tree ?_)
  show wpAny _ _ (callAny (.type "set") _) _ _ _
  refine wpAny_pure ⟨Code.quiet_builtin _ (by decide +kernel),
    codeAny_builtin PySem.F.entry_type_call ?_⟩
  rw [Around.under_plain (weight_type_call_type "set" [.ref l] []) rfl]
  have n1 := PySem.F.called_set.notType
  have n2 := PySem.F.called_set.canCreate
  have n3 := PySem.F.typeCall_set_1 (.ref l)
  repeat (any_goals (first | assumption | wp_step))
  refine codeAny_mono (code_set_led1 (.ref l) (E := E)
    (Q₁ := fun ob sb => ob = .ref s.heap.objs.size ∧ sb = { s with heap := s.heap.push (emptyO w) }) ⟨rfl, rfl⟩) fun r sb hr => ?_
  cases r with
  | error e => exact hr
  | ok fl =>
    cases fl with
    | next => exact hr.elim
    | brk => exact hr.elim
    | cont => exact hr.elim
    | ret ob =>
      obtain ⟨rfl, rfl⟩ := hr
      have gS : (s.heap.push (emptyO w)).get? s.heap.objs.size = some (emptyO w) := Heap.get?_push_size _ rfl
      have tS : Shared.TypeIs { s with heap := s.heap.push (emptyO w) } (.ref s.heap.objs.size) "set" := ⟨_, gS, rfl⟩
      have i1 := PySem.F.called_set.init.lookup
      have i2 := PySem.F.called_set.init.bind (.ref s.heap.objs.size)
      repeat (any_goals (first | assumption | wp_step))
      refine codeAny_mono (codeAny_call_builtin (R := wants (fun r sc => r = .none ∧ ∃ h' tk, sc = { s with heap := h', toks := tk } ∧
          J xs.toList.length h' ∧ ∀ b o, s.heap.get? b = some o → h'.get? b = some o) E)
        PySem.F.called_set.init.plain PySem.F.entry_set_init (check_set_init_1 tS ?_)) fun r2 sc hr2 => ?_
      · obtain ⟨ol, gl, cl, nl, dl⟩ := hl
        obtain ⟨oc, od, oda, osl⟩ := ol
        simp only at cl dl
        subst cl; subst dl
        have gl2 : (s.heap.push (emptyO w)).get? l = some { cls := .type "tuple", dict := od, data := .seq xs nl, slots := osl } := Heap.get?_push_of_some _ gl
        have z1 := PySem.F.sub_tuple_set
        have z2 := PySem.F.sub_tuple_frozenset
        have z3 : (Value.type "tuple" == Value.type "dict") = false := by decide
        have L1 : (s.heap.push (emptyO w)).IsTuple l xs := ⟨_, gl2, rfl, nl, rfl⟩
        unfold Builtin.«set.__init__» noKeywords Builtin.Frozenset.updateFrom
        generalize hPI : pyIter = PI
        wp_walk
        subst hPI
        refine wpAny_pyIter_tuple L1 ?_
        refine wpAny_bind (wpAny_runValue ?_)
        have lS : l < s.heap.objs.size := Heap.lt_size gl
        have h3 : A.in1.in1.in1.handled = none := by simp [hh]
        have zz : (s.heap.push (emptyO w)).objs.size = s.heap.objs.size + 1 := Heap.size_push ..
        have ne1 : l ≠ (s.heap.push (emptyO w)).objs.size := by
          rw [zz]; exact Nat.ne_of_lt (Nat.lt_succ_of_lt lS)
        have nf : s.heap.objs.size ∉ [(s.heap.push (emptyO w)).objs.size, l] := by
          rw [zz]
          simp only [List.mem_cons, List.mem_singleton, List.not_mem_nil, or_false, not_or]
          exact ⟨Nat.ne_of_lt (Nat.lt_succ_self _), Nat.ne_of_gt lS⟩
        have noH : ∀ b, s.heap.objs.size ≤ b → s.heap.get? b = none := fun b hb => by
          cases z : s.heap.get? b with
          | none => rfl
          | some o => exact absurd (Nat.lt_of_lt_of_le (Heap.lt_size z) hb) (Nat.lt_irrefl _)
        refine fill_gen ((Walks.tuple h3 _ l ne1 xs).toS) s.heap.objs.size nf xs.toList (by rw [Array.length_toList]) (fun i v hv => by rw [Array.getElem?_toList]; exact hv) s.heap (noH _ (Nat.le_refl _))
          (fun b hb => noH b (by rw [List.mem_singleton.mp hb, zz]; exact Nat.le_succ _)) J fr (add.up 3 (Nat.le_refl _)) (xs.size - 0) 0 _ (by omega) (Nat.zero_le _)
          ⟨⟨_, Heap.get?_push_size _ rfl, rfl, rfl⟩, L1.push _⟩ (fun b o e => Heap.get?_push_of_some _ (Heap.get?_push_of_some _ e)) ?_ ?_
        · exact j0 _ (Heap.get?_push_of_some _ gS) fun b o e => Heap.get?_push_of_some _ (Heap.get?_push_of_some _ e)
        · intro se mv kp Re
          obtain ⟨h', g2, d', tk', os'⟩ := se
          have eg : g2 = s.gens := mv.gens
          have ed : d' = s.drawn := mv.drawn
          have eo : os' = s.os := mv.os
          subst eg; subst ed; subst eo
          show wpAny _ _ _ _ _ _
          refine wpAny_pure ?_
          show wpAny _ _ (ret Value.none) _ _ _
          rw [← Array.length_toList] at Re
          exact wpAny_pure ⟨rfl, h', tk', rfl, Re, kp⟩
      · cases r2 with
        | error e => exact hr2
        | ok f2 =>
          cases f2 with
          | ret v =>
            obtain ⟨rfl, h', tk, rfl, Re, kp⟩ := hr2
            repeat (any_goals (first | assumption | wp_step))
            exact q h' tk Re kp
          | next => exact hr2.elim
          | brk => exact hr2.elim
          | cont => exact hr2.elim
end
end DL
namespace DL
open L2 PyProof.Rows PySem PySem.Spec
/-! ### sets of what can be told at a glance -/
section
variable {K : Type} [DecidableEq K] {P : Program} {w : World} {A : Around} {E : Value → Shared → Prop} {s : Shared} {kn : KeyKind P w K} {a : Addr} {S : K → Bool} {n : Nat}
def Unlike (kn : KeyKind P w K) (l : List (Int × Value)) : Prop := l.Pairwise fun x y => ∀ k, kn.is k x.2 = true → kn.is k y.2 = false
theorem Unlike.perm {l l' : List (Int × Value)} (p : l.Perm l') (u : Unlike kn l) : Unlike kn l' := by
  refine (List.Perm.pairwise_iff (fun {x y} h k hy => ?_) p).mp u
  cases z : kn.is k x.2 with
  | false => rfl
  | true =>
    have := h k z
    rw [hy] at this
    cases this
def SGen (kn : KeyKind P w K) (h : Heap) (a : Addr) (S : K → Bool) (n : Nat) : Prop :=
  ∃ o es ep t, h.get? a = some o ∧ o.ExactSet ∧ o.data = .set es ep t ∧ ElemsOf kn es.toList ∧ Unlike kn es.toList ∧ (∀ k, S k = true ↔ ∃ e ∈ es.toList, kn.is k e.2 = true) ∧
    es.size < scanBound ∧ t.fits es.size = true ∧ es.size = n ∧ Ris t.place.toList ∧ (w.params.followText "set-order" = true ∨ t.led = true)
theorem SGen.at {h h' : Heap} (R : SGen kn h a S n) (k : ∀ o, h.get? a = some o → h'.get? a = some o) : SGen kn h' a S n := by
  obtain ⟨o, es, ep, t, ho, r⟩ := R
  exact ⟨o, es, ep, t, k o ho, r⟩
theorem SGen.congr {h : Heap} {S' : K → Bool} (R : SGen kn h a S n) (e : ∀ k, S' k = S k) : SGen kn h a S' n := by
  have q : S' = S := funext e
  subst q
  exact R
theorem sgen_tail {g : Bool → Sem Unit} (hg : ∀ (b : Bool) (s₁ : Shared) (U : Unit → Shared → Prop), U () s₁ → wpAny (model P w) A (g b) U E s₁)
    {o : Obj} {es : Array (Int × Value)} {ep : Nat} {t : SetTable} (ho : s.heap.get? a = some o) (hx : o.ExactSet) (hd : o.data = .set es ep t)
    {eb : Array (Int × Value)} {tb : SetTable} {S' : K → Bool} (el : ElemsOf kn eb.toList) (un : Unlike kn eb.toList) (mm : ∀ k, S' k = true ↔ ∃ e ∈ eb.toList, kn.is k e.2 = true)
    (bd : eb.size < scanBound) (ft : tb.fits eb.size = true) (ri : Ris tb.place.toList) (ld : w.params.followText "set-order" = true ∨ tb.led = true) {wasD : Bool} {R : Option Bool → Shared → Prop}
    (hR : ∀ h', Heap.SameBut a s.heap h' → SGen kn h' a S' eb.size → R (some true) { s with heap := h' }) :
    wpAny (model P w) A (do
        storeSet a eb tb
        if (!wasD && tb.tooFull) = true then do
            g (relayAll tb eb (SetTable.grown eb.size)).2.2
            storeSet a (relayAll tb eb (SetTable.grown eb.size)).1 (relayAll tb eb (SetTable.grown eb.size)).2.1
            pure (some true)
          else pure (some true)) R E s := by
  refine wpAny_bind (wpAny_storeSet_of ho hd ?_ (fits_of_scanBound bd))
  have hb := store_at (es' := eb) (t' := tb) ho hd
  have sa := Heap.SameBut.update s.heap a (Obj.putSet eb tb)
  split
  · have c1 := relayAll_perm tb eb (SetTable.grown eb.size)
    have c2 := relayAll_fits tb eb (SetTable.grown eb.size)
    have c3 := relayAll_ris tb eb (SetTable.grown eb.size)
    have c4 := relayAll_led tb eb (SetTable.grown eb.size)
    generalize relayAll tb eb (SetTable.grown eb.size) = Z at c1 c2 c3 c4 ⊢
    obtain ⟨ec, tc, gave⟩ := Z
    dsimp only at c1 c2 c3 c4 ⊢
    have sz : ec.size = eb.size := by rw [← Array.length_toList, c1.length_eq, Array.length_toList]
    have bc : ec.size < scanBound := by rw [sz]; exact bd
    refine wpAny_bind (hg _ _ _ ?_)
    refine wpAny_bind (wpAny_storeSet_of hb rfl ?_ (fits_of_scanBound bc))
    have hc := store_at (es' := ec) (t' := tc) hb rfl
    refine wpAny_pure (hR _ (sa.trans (Heap.SameBut.update _ a _)) ?_)
    exact ⟨_, ec, _, tc, hc, hx, rfl, fun e he => el e (c1.mem_iff.mp he), un.perm c1.symm, fun k => (mm k).trans ⟨fun ⟨e, he, q⟩ => ⟨e, c1.mem_iff.mpr he, q⟩, fun ⟨e, he, q⟩ => ⟨e, c1.mem_iff.mp he, q⟩⟩, bc, c2, sz, c3,
      ld.imp id fun z => by rw [c4]; exact z⟩
  · exact wpAny_pure (hR _ sa ⟨_, eb, _, tb, hb, hx, rfl, el, un, mm, bd, ft, rfl, ri, ld⟩)
theorem sgen_hashed {k : K} {x : Value} {U : Bool → Shared → Prop} (hk : kn.is k x = true) (sc : x.scannable = true) (R : SGen kn s.heap a S n) (room : n + 1 < scanBound)
    (hU : ∀ b h', Heap.SameBut a s.heap h' → SGen kn h' a (fun j => S j || decide (j = k)) (if S k = true then n else n + 1) → U b { s with heap := h' }) :
    wpAny (model P w) A (setAddHashed a x (kn.hash k)) U E s := by
  obtain ⟨o, es, ep, t, ho, hx, hd, el, un, mm, bd, ft, hn, ri, ld⟩ := R
  unfold setAddHashed setAddHashedIn
  refine wpAny_holding (wpAny_bind (wpAny_setState_of ho hd ft ?_))
  dsimp only
  rw [byScan_of sc bd el]
  simp only [↓reduceIte]
  unfold setAddByScan
  refine wpAny_bind ?_
  refine wpAny_bind (wpAny_rule ?_)
  refine wpAny_bind (wpAny_setScan_of hk ho hd ft el ?_)
  cases fi : List.findIdx? (fun e => kn.is k e.2) es.toList with
  | some j =>
    dsimp only
    obtain ⟨hj, pj, _⟩ := List.findIdx?_eq_some_iff_getElem.mp fi
    have yes : S k = true := (mm k).mpr ⟨es.toList[j], List.getElem_mem hj, pj⟩
    refine wpAny_pure (wpAny_pure ?_)
    have z := hU false s.heap (Heap.SameBut.refl a s.heap) ⟨o, es, ep, t, ho, hx, hd, el, un, fun i => by
      rw [Bool.or_eq_true, decide_eq_true_eq, ← mm i]
      exact ⟨fun z => z.elim id (fun e => e ▸ yes), .inl⟩, bd, ft, by rw [if_pos yes]; exact hn, ri, ld⟩
    exact z
  | none =>
    dsimp only
    have no : ∀ e ∈ es.toList, kn.is k e.2 = false := fun e he => by
      have c := List.findIdx?_eq_none_iff.mp fi e he
      simpa using c
    have off : S k = false := by
      cases z : S k with
      | false => rfl
      | true =>
        obtain ⟨e, he, c⟩ := (mm k).mp z
        rw [no e he] at c
        cases c
    have gw : ∀ (b : Bool) {s₁ : Shared} {U' : Unit → Shared → Prop}, U' () s₁ → wpAny (model P w) A (match b with | true => rule "set.scan.the-table-gave-way" | false => pure ()) U' E s₁ :=
      fun b s₁ U' z => by cases b <;> first | exact wpAny_pure z | exact wpAny_rule z
    have c1 := layNew_perm t es (kn.hash k) x
    have c2 := layNew_fits t es (kn.hash k) x
    have c3 := layNew_ris t es (kn.hash k) x ri
    have c4 := layNew_led t es (kn.hash k) x
    generalize layNew t es (kn.hash k) x = Z at c1 c2 c3 c4 ⊢
    obtain ⟨eb, tb, wasD, gave⟩ := Z
    dsimp only at c1 c2 c3 c4 ⊢
    rw [Array.toList_push] at c1
    have pc : eb.toList.Perm ((kn.hash k, x) :: es.toList) := c1.trans (List.perm_append_singleton _ _)
    have eb1 : ElemsOf kn eb.toList := fun e he => by
      rcases List.mem_cons.mp (pc.mem_iff.mp he) with z | z
      · subst z; exact ⟨⟨k, hk, rfl⟩, sc⟩
      · exact el e z
    have ub1 : Unlike kn eb.toList := Unlike.perm pc.symm (List.pairwise_cons.mpr ⟨fun e he k' hk' => by
      rw [kn.inj x k' k hk' hk]
      exact no e he, un⟩)
    have mb1 : ∀ i, (S i || decide (i = k)) = true ↔ ∃ e ∈ eb.toList, kn.is i e.2 = true := mem_push_iff hk mm c1
    have sz : eb.size = n + 1 := by rw [← Array.length_toList, pc.length_eq, List.length_cons, Array.length_toList, hn]
    have bb : eb.size < scanBound := by rw [sz]; exact room
    have lb : w.params.followText "set-order" = true ∨ tb.led = true := ld.imp id fun z => by rw [c4]; exact z
    have fin : ∀ h', Heap.SameBut a s.heap h' → SGen kn h' a (fun j => S j || decide (j = k)) eb.size → U true { s with heap := h' } := fun h' sb r => by
      have z := hU true h' sb
      rw [off] at z
      rw [sz] at r
      exact z r
    refine wpAny_bind (gw _ ?_)
    split
    · refine wpAny_bind ?_
      rw [hashByValue_scannable 8 sc]
      refine wpAny_pure ?_
      refine sgen_tail ?_ ho hx hd eb1 ub1 mb1 bb ?_ ?_ ?_ ?_
      · intro b s₁ U' z; cases b <;> first | exact wpAny_pure z | exact wpAny_rule z
      · first | (split <;> first | exact c2 | exact SetTable.fits_plain_off c2) | exact c2
      · first | (split <;> exact c3) | exact c3
      · first | (split <;> exact lb) | exact lb
      · intro h' sb r; dsimp only; exact wpAny_pure (fin h' sb r)
    · refine wpAny_bind (wpAny_pure ?_)
      simp only [↓reduceIte]
      refine sgen_tail ?_ ho hx hd eb1 ub1 mb1 bb c2 c3 lb ?_
      · intro b s₁ U' z; cases b <;> first | exact wpAny_pure z | exact wpAny_rule z
      · intro h' sb r; dsimp only; exact wpAny_pure (fin h' sb r)
theorem sgen_fresh {h : Heap} (ha : h.get? a = some (emptyO w)) : SGen kn h a (fun _ => false) 0 :=
  ⟨_, #[], 0, _, ha, ⟨rfl, rfl, rfl⟩, rfl, (fun e he => by simp at he), List.Pairwise.nil, (fun k => by simp), (by decide), (by rfl), rfl, List.Pairwise.nil, by
    show _ ∨ (!w.params.followText "set-order") = true
    cases w.params.followText "set-order"
    · exact .inr rfl
    · exact .inl rfl⟩
end
/-! ### the set as it lies: its values in their order -/
section
variable {P : Program} {w : World} {A : Around} {E : Value → Shared → Prop} {s : Shared} {a : Addr}
def SetV (w : World) (h : Heap) (a : Addr) (us : List Value) : Prop :=
  ∃ o es ep t, h.get? a = some o ∧ o.ExactSet ∧ o.data = .set es ep t ∧ es.toList.map (·.2) = us ∧ es.size < scanBound ∧ t.fits es.size = true ∧ Ris t.place.toList ∧ (w.params.followText "set-order" = true ∨ t.led = true)
theorem SetV.at {h h' : Heap} {us : List Value} (R : SetV w h a us) (k : ∀ o, h.get? a = some o → h'.get? a = some o) : SetV w h' a us := by
  obtain ⟨o, es, ep, t, ho, r⟩ := R
  exact ⟨o, es, ep, t, k o ho, r⟩
def keyU : Value → Key
  | .int i _ => .inl i
  | .str x _ => .inr x
  | _ => .inl 0
theorem rel_keyU {k : Key} {v : Value} (h : keyIs k v = true) : RelV (kV k) v ∧ keyU v = k := by
  rcases keyIs_shape h with ⟨i, t, rfl, rfl⟩ | ⟨x, t, rfl, rfl⟩
  · exact ⟨⟨t, rfl⟩, rfl⟩
  · exact ⟨⟨t, rfl⟩, rfl⟩
theorem vals_keyU : ∀ {us : List Value}, (∀ u ∈ us, ∃ k, keyIs k u = true) → Vals ((us.map keyU).map kV) us
  | [], _ => .nil
  | u :: us, h => by
    obtain ⟨k, hk⟩ := h u List.mem_cons_self
    have z := rel_keyU hk
    refine .cons ?_ (vals_keyU fun x hx => h x (List.mem_cons_of_mem _ hx))
    show RelV (kV (keyU u)) u
    rw [z.2]
    exact z.1
theorem nodup_keyU : ∀ {l : List (Int × Value)}, Unlike (mixKind P w) l → (∀ e ∈ l, ∃ k, keyIs k e.2 = true) → ((l.map (·.2)).map keyU).Nodup
  | [], _, _ => List.nodup_nil
  | e :: l, u, h => by
    have u2 := List.pairwise_cons.mp u
    refine List.nodup_cons.mpr ⟨fun hm => ?_, nodup_keyU u2.2 fun x hx => h x (List.mem_cons_of_mem _ hx)⟩
    obtain ⟨v, hv, ev⟩ := List.mem_map.mp hm
    obtain ⟨e2, he2, e3⟩ := List.mem_map.mp hv
    obtain ⟨k, hk⟩ := h e List.mem_cons_self
    obtain ⟨k2, hk2⟩ := h e2 (List.mem_cons_of_mem _ he2)
    have z := rel_keyU hk
    have z2 := rel_keyU hk2
    have c := u2.1 e2 he2 k hk
    have : k2 = k := by rw [← z2.2, ← z.2, e3, ev]
    subst this
    rw [show (mixKind P w).is k2 e2.2 = keyIs k2 e2.2 from rfl, hk2] at c
    cases c
def memK (k : Key) : List Key → Bool
  | [] => false
  | x :: l => decide (x = k) || memK k l
theorem memK_iff {k : Key} : ∀ {l : List Key}, memK k l = true ↔ k ∈ l
  | [] => by simp [memK]
  | x :: l => by
    unfold memK
    rw [Bool.or_eq_true, decide_eq_true_eq, memK_iff, List.mem_cons]
    exact ⟨fun h => h.imp Eq.symm id, fun h => h.imp Eq.symm id⟩
def JKey (P : Program) (w : World) (a : Addr) (xs : List Key) (i : Nat) (h : Heap) : Prop := ∃ c, c ≤ i ∧ SGen (mixKind P w) h a (fun k => memK k (xs.take i)) c
theorem vals_kV_at : ∀ {xs : List Key} {its : List Value}, Vals (xs.map kV) its → ∀ (i : Nat) (v : Value), its[i]? = some v → ∃ k, xs[i]? = some k ∧ RelV (kV k) v
  | [], _, .nil, i, v, h => by simp at h
  | k :: xs, _, .cons r t, 0, v, h => by
    cases h
    exact ⟨k, rfl, r⟩
  | k :: xs, _, .cons r t, i + 1, v, h => vals_kV_at t i v (by simpa using h)
theorem adds_key {h0 : Heap} {its : List Value} {xs : List Key} (r : Vals (xs.map kV) its) (hb : xs.length + 1 < scanBound) : Adds P w A h0 a its (JKey P w a xs) := by
  intro A' _ i v s1 E' U hi ⟨c, hc, R⟩ kp q
  obtain ⟨k, hk, rk⟩ := vals_kV_at r i v hi
  have li : i < xs.length := (List.getElem?_eq_some_iff.mp hk).1
  unfold setAdd
  refine wpAny_holding ?_
  refine wpAny_bind ((mixKind P w).pyHash (k := k) (kV_is rk) ?_)
  refine sgen_hashed (s := { s1 with toks := s1.toks + 1 }) (k := k) (kV_is rk) (key_scan rk) R (by omega) fun b h' sb R2 => ?_
  refine q b h' _ (Nat.le_succ _) sb ⟨_, ?_, R2.congr fun j => ?_⟩
  · split <;> omega
  · have e : xs.take (i + 1) = xs.take i ++ [k] := by rw [List.take_succ, hk]; rfl
    rw [e, Bool.eq_iff_iff, Bool.or_eq_true, decide_eq_true_eq, memK_iff, memK_iff, List.mem_append, List.mem_singleton]
theorem SGen.v {h : Heap} {S : Key → Bool} {n : Nat} (R : SGen (mixKind P w) h a S n) : ∃ us, SetV w h a us ∧ Vals ((us.map keyU).map kV) us ∧ (us.map keyU).Nodup ∧ (∀ k, k ∈ us.map keyU ↔ S k = true) ∧ us.length = n := by
  obtain ⟨o, es, ep, t, ho, hx, hd, el, un, mm, bd, ft, hn, ri, ld⟩ := R
  have ks : ∀ e ∈ es.toList, ∃ k, keyIs k e.2 = true := fun e he => by
    obtain ⟨⟨k, hk, _⟩, _⟩ := el e he
    exact ⟨k, hk⟩
  refine ⟨_, ⟨o, es, ep, t, ho, hx, hd, rfl, bd, ft, ri, ld⟩, vals_keyU fun u hu => ?_, nodup_keyU un ks, fun k => ?_, ?_⟩
  · obtain ⟨e, he, rfl⟩ := List.mem_map.mp hu
    exact ks e he
  · rw [mm k, List.mem_map]
    constructor
    · rintro ⟨v, hv, e⟩
      obtain ⟨x, hx, rfl⟩ := List.mem_map.mp hv
      obtain ⟨k2, hk2⟩ := ks x hx
      have z := (rel_keyU hk2).2
      rw [e] at z
      subst z
      exact ⟨x, hx, hk2⟩
    · rintro ⟨x, hx, hk⟩
      exact ⟨x.2, List.mem_map.mpr ⟨x, hx, rfl⟩, (rel_keyU hk).2⟩
  · rw [List.length_map, Array.length_toList]; exact hn
/-! ### tuples of ints -/
def JTup (P : Program) (w : World) (a : Addr) (ks : List (Addr × List Int)) (i : Nat) (h : Heap) : Prop := ∃ L es ep t, SetTR P w h a L es ep t ∧ Got ks i L
theorem adds_tup {h0 : Heap} {its : List Value} {ks : List (Addr × List Int)} (ei : its = ks.map fun p => Value.ref p.1) (hk : ∀ p ∈ ks, IsT P w h0 p.2 p.1) (hf : ks.length < 64) (hu : A.units + 20 < cLine) : Adds P w A h0 a its (JTup P w a ks) := by
  intro A' hA i v s1 E' U hi ⟨L, es, ep, t, R, g⟩ kp q
  subst ei
  rw [List.getElem?_map] at hi
  cases hp : ks[i]? with
  | none => rw [hp] at hi; cases hi
  | some p =>
    rw [hp] at hi
    cases hi
    have hx : IsT P w s1.heap p.2 p.1 := isT_keep (hk p (List.mem_of_getElem? hp)) kp
    have hu2 : A'.units < cLine := by omega
    unfold setAdd
    refine wpAny_holding ?_
    refine wpAny_bind (wpAny_pyHash_tuple hu2 hx ?_)
    have li : i < ks.length := (List.getElem?_eq_some_iff.mp hp).1
    refine add_at (s := { s1 with toks := s1.toks + (p.2.length + 1) }) R hx hu2 (by have := g.len; omega) fun b h' L' es' ep' t' sb R2 c1 c2 => ?_
    refine q b h' _ (Nat.le_add_right _ _) sb ⟨L', es', ep', t', R2, ?_⟩
    rcases Classical.em (p.2 ∈ L.map (·.2)) with c | c
    · rw [c1 c]; exact g.same hp c
    · exact g.more hp (c2 c)
theorem SetTR.v {L : List (Addr × List Int)} {es : Array (Int × Value)} {ep : Nat} {t : SetTable} (R : SetTR P w s.heap a L es ep t) : SetV w s.heap a (L.map fun p => Value.ref p.1) := by
  obtain ⟨o, ho, hx, hd⟩ := R.ob
  have sz := R.size
  have fw := R.few
  refine ⟨o, es, ep, t, ho, hx, hd, ?_, by unfold scanBound; omega, R.fits, R.tab.ris, R.led⟩
  rw [R.rows]
  unfold rowsOf
  rw [List.map_map]
  rfl
/-! ### sorted(set) -/
theorem sorted_setV {us : List Value} {ltv : Value → Value → Bool} {U : Value → Shared → Prop} (O : SrtO.Swo ltv) (R : SetV w s.heap a us) (hh : A.handled = none)
    (hS : ∀ vs : List Value, vs.Perm us → 2 ≤ vs.length → ∀ (h1 : Heap) (g1 : Shared) (l : Addr), h1.get? l = some (seqObj "list" vs.toArray 0) → (∀ b o, s.heap.get? b = some o → b ≠ l ∧ h1.get? b = some o) → SrtO.SortableO P w A.in1.in1 { g1 with heap := h1 } l vs ltv)
    (q : ∀ s' p (out : List Value) (c : Nat), (∀ b o, s.heap.get? b = some o → s'.heap.get? b = some o) → s'.gens = s.gens → s'.os = s.os → s.heap.objs.size ≤ p →
      s'.heap.get? p = some (seqObj "list" out.toArray c) → SrtO.Srtd ltv out → out.Perm us → U (.ref p) s') :
    wpAny (model P w) A (call (.builtin "sorted") [.ref a]) U E s := by
  obtain ⟨o, es, ep, t, ho, hx, hd, eu, bd, ft, ri, ld⟩ := R
  refine Calls.call_function_entry kind_sorted plain_sorted entry_sorted (args_sorted1 _) ?_
  unfold Builtin.«sorted»
  refine wpAny_bind (m := checkCount "sorted" 1 1 _) (wpAny_pure ?_)
  refine wpAny_bind (collect_set (A := A.in1) hh ⟨o, ho, hx.1, hd⟩ ft bd ri ld fun s1 vs k1 hz g1 o1 pm => ?_)
  rw [eu] at pm
  have hvl : vs.length ≤ sizeLine := by
    rw [pm.length_eq, ← eu, List.length_map, Array.length_toList]
    exact fits_of_scanBound bd
  refine wpAny_bind (wpAny_newList ?_ hvl)
  have hoL : (s1.heap.push (seqObj "list" vs.toArray 0)).get? s1.heap.objs.size = some (seqObj "list" vs.toArray 0) := Heap.get?_push_size _ rfl
  have kp : ∀ b o, s.heap.get? b = some o → b ≠ s1.heap.objs.size ∧ (s1.heap.push (seqObj "list" vs.toArray 0)).get? b = some o := fun b o e =>
    ⟨Nat.ne_of_lt (Heap.lt_size (k1 b o e)), Heap.get?_push_of_some _ (k1 b o e)⟩
  refine wpAny_bind (wpAny_holding (wpAny_call_entry slot_list_sort ⟨_, hoL, rfl⟩ entry_list_sort (SrtO.list_sort_ord O hoL hvl (fun h2 => hS vs pm h2 _ s1 _ hoL kp) fun out hs hb => ⟨_, rfl, ?_⟩) (args_list_sort _)))
  obtain ⟨c, hc⟩ := sortedHeap_at (vs := vs) (out := out.toArray) hoL
  refine wpAny_pure ⟨_, rfl, q _ s1.heap.objs.size out c (fun b u e => ?_) g1 o1 hz hc hs (hb.perm.trans pm)⟩
  have z := k1 b u e
  have lt := Heap.lt_size z
  show (sortedHeap (s1.heap.push (seqObj "list" vs.toArray 0)) s1.heap.objs.size vs out.toArray).get? b = some u
  rw [sortedHeap_old (Nat.ne_of_lt lt) (by rw [size_push']; exact Nat.lt_succ_of_lt lt)]
  exact Heap.get?_push_of_some _ z
end
end DL
namespace DL
open L2 PyProof.Rows PySem PySem.Spec
variable [TabT]
/-! ### each once -/
section
variable {α : Type} [DecidableEq α]
def ddL : List α → List α
  | [] => []
  | x :: l => if x ∈ l then ddL l else x :: ddL l
theorem ddL_mem {z : α} : ∀ {l : List α}, z ∈ ddL l ↔ z ∈ l
  | [] => by simp [ddL]
  | x :: l => by
    unfold ddL
    by_cases h : x ∈ l
    · rw [if_pos h, ddL_mem, List.mem_cons]
      exact ⟨.inr, fun e => e.elim (fun e => e ▸ h) id⟩
    · rw [if_neg h, List.mem_cons, ddL_mem, List.mem_cons]
theorem ddL_nodup : ∀ {l : List α}, (ddL l).Nodup
  | [] => List.nodup_nil
  | x :: l => by
    unfold ddL
    by_cases h : x ∈ l
    · rw [if_pos h]; exact ddL_nodup
    · rw [if_neg h]
      exact List.nodup_cons.mpr ⟨fun z => h (ddL_mem.mp z), ddL_nodup⟩
theorem ddL_perm {l m : List α} (nd : m.Nodup) (h : ∀ x, x ∈ m ↔ x ∈ l) : m.Perm (ddL l) :=
  (List.perm_ext_iff_of_nodup nd ddL_nodup).mpr fun x => (h x).trans ddL_mem.symm
theorem ddL_self : ∀ {l : List α}, l.Nodup → ddL l = l
  | [], _ => rfl
  | x :: l, h => by
    have h2 := List.nodup_cons.mp h
    unfold ddL
    rw [if_neg h2.1, ddL_self h2.2]
theorem ddL_len : ∀ {l : List α}, (ddL l).length ≤ l.length
  | [] => Nat.le_refl _
  | x :: l => by
    unfold ddL
    split
    · exact Nat.le_succ_of_le ddL_len
    · exact Nat.succ_le_succ ddL_len
end
def tupI (ns : List Int) : D := .tup (ns.map D.int)
def tupsI : List D → Option (List (List Int))
  | [] => some []
  | .tup es :: ds => (intsOf es).bind fun ns => (tupsI ds).map (ns :: ·)
  | _ => none
theorem tupsI_some : ∀ {ds : List D} {tt : List (List Int)}, tupsI ds = some tt → ds = tt.map tupI
  | [], tt, h => by cases h; rfl
  | .tup es :: ds, tt, h => by
    simp only [tupsI] at h
    obtain ⟨ns, h1, h2⟩ := bind_some h
    cases h3 : tupsI ds with
    | none => rw [h3] at h2; cases h2
    | some t2 =>
      rw [h3] at h2
      cases h2
      rw [List.map_cons, ← tupsI_some h3, intsOf_some h1]
      rfl
  | .non :: _, _, h => by cases h
  | .bl _ :: _, _, h => by cases h
  | .int _ :: _, _, h => by cases h
  | .str _ :: _, _, h => by cases h
  | .lst _ :: _, _, h => by cases h
  | .dic _ _ _ :: _, _, h => by cases h
  | .ref _ :: _, _, h => by cases h
/-- the members of set(xs): ints, texts; tuples of ints -/
def uOf (ds : List D) : Option (List D) :=
  if ds.all isIS = true then some ((ddL (ds.map toKey)).map keyD)
  else match tupsI ds with
    | some tt => if tt.length < 64 then some ((ddL tt).map tupI) else none
    | none => none
theorem lays_of {n : Nat} : ∀ {ds : List D}, (∀ d ∈ ds, lay n d = true) → lays n ds = true
  | [], _ => by simp [DL.lays]
  | d :: ds, h => by
    simp only [DL.lays, Bool.and_eq_true]
    exact ⟨h d List.mem_cons_self, lays_of fun x hx => h x (List.mem_cons_of_mem _ hx)⟩
theorem gds_of : ∀ {ds : List D}, (∀ d ∈ ds, gd d = true) → gds ds = true
  | [], _ => by simp [DL.gds]
  | d :: ds, h => by
    simp only [DL.gds, Bool.and_eq_true]
    exact ⟨h d List.mem_cons_self, gds_of fun x hx => h x (List.mem_cons_of_mem _ hx)⟩
theorem all_perm {ds es : List D} (p : ds.Perm es) {f : D → Bool} (h : ds.all f = true) : es.all f = true :=
  List.all_eq_true.mpr fun x hx => List.all_eq_true.mp h x (p.mem_iff.mpr hx)
theorem sOk_perm {ds es : List D} (p : ds.Perm es) (h : sOk ds = true) : sOk es = true := by
  simp only [sOk, Bool.and_eq_true, Bool.or_eq_true, decide_eq_true_eq] at h ⊢
  obtain ⟨⟨⟨h1, h2⟩, h3⟩, h4⟩ := h
  refine ⟨⟨⟨lays_of fun d hd => lays_mem h1 (p.mem_iff.mpr hd), gds_of fun d hd => gds_mem h2 (p.mem_iff.mpr hd)⟩, ?_⟩, ?_⟩
  · refine List.all_eq_true.mpr fun x hx => List.all_eq_true.mpr fun y hy => ?_
    exact List.all_eq_true.mp (List.all_eq_true.mp h3 x (p.mem_iff.mpr hx)) y (p.mem_iff.mpr hy)
  · rcases h4 with (((h | h) | ⟨h, h5⟩) | h)
    · exact .inl (.inl (.inl (all_perm p h)))
    · exact .inl (.inl (.inr (all_perm p h)))
    · refine .inl (.inr ⟨all_perm p h, ?_⟩)
      rcases h5 with ((h | h) | h)
      · exact .inl (.inl (all_perm p h))
      · exact .inl (.inr (all_perm p h))
      · exact .inr (all_perm p h)
    · exact .inr (by rw [← p.length_eq]; exact h)
theorem readsAll_ad {h : Heap} : ∀ {vs : List Value}, (∀ v ∈ vs, ∃ bs, Reads h v (toPy (ad h v)) bs) → ∃ as, ReadsAll h vs (toPys (vs.map (ad h))) as
  | [], _ => ⟨[], by simp only [List.map_nil, DL.toPys]; exact .nil⟩
  | v :: vs, hv => by
    obtain ⟨bs, r⟩ := hv v List.mem_cons_self
    obtain ⟨as, rs⟩ := readsAll_ad fun u hu => hv u (List.mem_cons_of_mem _ hu)
    have : ReadsAll h (v :: vs) (toPy (ad h v) :: toPys (vs.map (ad h))) _ := .cons r rs
    refine ⟨bs ++ as, ?_⟩
    rw [List.map_cons, DL.toPys]
    exact this
/-! ### the rules -/
section
variable {P : Program} {w : World} {A : Around} {E : Value → Shared → Prop} {s : Shared}
def SetVO (w : World) (a : Addr) (us : List Value) : HO := .ext fun h => SetV w h a us
theorem setVO_new {w : World} {P : Program} {H : Hp} {h : Heap} {a : Addr} {us : List Value} (R : SetV w h a us) : ObjOk P w H h a (SetVO w a us) := by
  have ⟨o, _, _, _, ho, _⟩ := R
  exact ⟨R, ⟨o, ho⟩, fun h1 h2 p k => SetV.at p k⟩
theorem call_setG {l : Addr} {xs : Array Value} {U : Value → Shared → Prop} (hh : A.handled = none) (hl : s.heap.IsList l xs ∨ s.heap.IsTuple l xs) (J : Nat → Heap → Prop)
    (j0 : ∀ h', h'.get? s.heap.objs.size = some (emptyO w) → (∀ b o, s.heap.get? b = some o → h'.get? b = some o) → J 0 h')
    (fr : ∀ i h h', J i h → (∀ o, h.get? s.heap.objs.size = some o → h'.get? s.heap.objs.size = some o) → (∀ b o, s.heap.get? b = some o → h'.get? b = some o) → J i h')
    (add : Adds P w A s.heap s.heap.objs.size xs.toList J)
    (q : ∀ (h' : Heap) (tk : Nat), J xs.toList.length h' → (∀ b o, s.heap.get? b = some o → h'.get? b = some o) → U (.ref s.heap.objs.size) { s with heap := h', toks := tk }) :
    wpAny (model P w) A (call (.type "set") [.ref l]) U E s := by
  rcases hl with hl | hl
  · exact call_set_lstG hh hl J j0 fr add q
  · exact call_set_tupG hh hl J j0 fr add q
end
section
variable {K : PySem.W.Frag} {Z : Addr → Prop} {ρ : List Addr} {H : Hp}
theorem reps_keys : ∀ ks : List Key, Reps K Z ρ H (ks.map keyD) (ks.map kV)
  | [] => by simp [DL.Reps]
  | k :: ks => by
    simp only [List.map_cons, DL.Reps]
    exact ⟨_, _, rfl, rep_keyD.mpr rfl, reps_keys ks⟩
theorem reps_tups : ∀ {tt : List (List Int)} {xs : List V}, Reps K Z ρ H (tt.map tupI) xs → ∃ ks : List (Addr × List Int), xs = ks.map (fun p => V.ref p.1) ∧ tt = ks.map (·.2) ∧ ∀ p ∈ ks, SqT K H p.1 (p.2.map V.int) ∧ Rep K Z ρ H (tupI p.2) (.ref p.1)
  | [], xs, h => by
    simp only [List.map_nil, DL.Reps] at h
    subst h
    exact ⟨[], rfl, rfl, fun p hp => by cases hp⟩
  | t :: tt, xs, h => by
    simp only [List.map_cons, DL.Reps] at h
    obtain ⟨v, ws, rfl, h1, h2⟩ := h
    obtain ⟨ks, rfl, rfl, h3⟩ := reps_tups h2
    obtain ⟨a, vs, rfl, k1, k2⟩ := rep_tup.mp h1
    refine ⟨(a, t) :: ks, rfl, rfl, fun p hp => ?_⟩
    rcases List.mem_cons.mp hp with e | hp
    · subst e
      have e2 := reps_ints k2
      subst e2
      exact ⟨k1.sq, h1⟩
    · exact h3 p hp
theorem reps_addrs : ∀ {L : List (Addr × List Int)}, (∀ p ∈ L, Rep K Z ρ H (tupI p.2) (.ref p.1)) → Reps K Z ρ H ((L.map (·.2)).map tupI) (L.map fun p => V.ref p.1)
  | [], _ => by simp [DL.Reps]
  | p :: L, h => by
    simp only [List.map_cons, DL.Reps]
    exact ⟨_, _, rfl, h p List.mem_cons_self, reps_addrs fun x hx => h x (List.mem_cons_of_mem _ hx)⟩
end
/-- set(xs) -/
def rSetU (K : PySem.W.Frag) (w : World) : List V → Hp → VK → Prop := fun vs H Q => ∃ (l : Addr) (ds : List D) (xs : List V) (Z : Addr → Prop) (ρ : List Addr) (es : List D), vs = [.ref l] ∧ (SqL K H l xs ∨ SqT K H l xs) ∧ Reps K Z ρ H ds xs ∧ uOf ds = some es ∧ ds.length + 1 < scanBound ∧
  ∀ p es' ys us, H p = none → es'.Perm es → Reps K Z ρ H es' ys → Vals ys us → Q (.ref p) (upd H p (SetVO w p us))
/-- sorted(s) -/
def rSortV (K : PySem.W.Frag) (w : World) : List V → Hp → VK → Prop := fun vs H Q => ∃ (a : Addr) (us : List Value) (xs : List V) (ds : List D) (Z : Addr → Prop) (ρ : List Addr), vs = [.ref a] ∧ H a = some (SetVO w a us) ∧ Vals xs us ∧ Reps K Z ρ H ds xs ∧ sOk ds = true ∧
  ∀ ys p, H p = none → Reps K Z ρ H (dSort ds) ys → ys.length = xs.length → Q (.ref p) (upd H p (.lst ys))
section
variable {X : Cx}
theorem cr_setU (hc : X.calm = true) (hu : X.A.units + 64 < cLine) : CallR X (.type "set") (rSetU X.K X.w) := by
  intro pins s σ H vs us0 Q I r h
  obtain ⟨l, ds, xs, Z, ρ, es, rfl, hq, hr, he, hb, q⟩ := h
  rw [Vals.ref1 r]
  have hn := I.hok.fresh (Nat.le_refl s.heap.objs.size)
  have fin : ∀ (h' : Heap) (tk : Nat) (es' : List D) (ys : List V) (us : List Value), SetV X.w h' s.heap.objs.size us → (∀ b o, s.heap.get? b = some o → h'.get? b = some o) → es'.Perm es → Reps X.K Z ρ H es' ys → Vals ys us → EP X pins σ Q (.ref s.heap.objs.size) { s with heap := h', toks := tk } := fun h' tk es' ys us R kp p1 r1 v1 =>
    ⟨.ref _, upd H s.heap.objs.size (SetVO X.w s.heap.objs.size us), I.laid (t' := tk) kp (Nat.le_refl _) (setVO_new R), rfl, q _ es' ys us hn p1 r1 v1⟩
  have items : ∃ its : List Value, Vals xs its ∧ (s.heap.IsList l its.toArray ∨ s.heap.IsTuple l its.toArray) := by
    rcases hq with hq | hq
    · obtain ⟨its, rv, pl, hz⟩ := I.list hq
      exact ⟨its, rv, .inl pl.isList⟩
    · obtain ⟨its, rv, pl, hz⟩ := I.tuple hq
      exact ⟨its, rv, .inr pl⟩
  obtain ⟨its, rv, hl⟩ := items
  unfold uOf at he
  split at he
  · rename_i ha
    cases he
    have e1 : (ds.map toKey).map keyD = ds := map_keyD_toKey ha
    generalize ds.map toKey = ks at e1 q fin
    subst e1
    have ex := reps_keyD hr
    subst ex
    rw [List.length_map] at hb
    refine call_setG (I.ok.hd hc) hl (JKey X.prog X.w s.heap.objs.size ks) (fun h' e _ => ⟨0, Nat.le_refl _, (sgen_fresh e).congr fun k => rfl⟩) (fun i h h' ⟨c, hc', R⟩ e _ => ⟨c, hc', R.at e⟩) (adds_key rv hb) fun h' tk ⟨c, _, R⟩ kp => ?_
    obtain ⟨us, sv, v1, nd, mm, _⟩ := R.v
    have el : its.toArray.toList.length = ks.length := by
      have := rv.length
      rw [List.length_map] at this
      simp only [List.toList_toArray]
      omega
    refine fin h' tk _ _ us sv kp (List.Perm.map keyD (ddL_perm nd fun k => ?_)) (reps_keys _) v1
    rw [mm k, el, List.take_length, memK_iff]
  · split at he
    · rename_i tt ht
      split at he
      · rename_i h64
        cases he
        have e1 := tupsI_some ht
        subst e1
        obtain ⟨ks, rfl, rfl, hk⟩ := reps_tups hr
        rw [List.length_map] at h64
        have isT : ∀ p ∈ ks, IsT X.prog X.w s.heap p.2 p.1 := fun p hp => I.isT (hk p hp).1
        have ei := refs_of_vals rv
        refine call_setG (I.ok.hd hc) hl (JTup X.prog X.w s.heap.objs.size ks) (fun h' e _ => ⟨[], #[], 0, _, setTR_fresh e, Got.zero ks⟩)
          (fun i h h' ⟨L, es, ep, t, R, g⟩ e kp => ⟨L, es, ep, t, R.keep e fun p hp => isT_keep (isT p (List.mem_of_mem_take (g.sub p hp))) kp, g⟩)
          (adds_tup (by simpa using ei) isT h64 (by omega)) fun h' tk ⟨L, es, ep, t, R, g⟩ kp => ?_
        have el : its.toArray.toList.length = ks.length := by rw [ei]; simp
        rw [el] at g
        have sub : ∀ p ∈ L, p ∈ ks := fun p hp => List.mem_of_mem_take (g.sub p hp)
        refine fin h' tk _ _ _ (SetTR.v (s := { s with heap := h' }) R) kp (List.Perm.map tupI (ddL_perm R.nd fun k => ?_)) (reps_addrs fun p hp => (hk p (sub p hp)).2) (vals_of_refs L)
        constructor
        · intro hm
          obtain ⟨p, hp, e⟩ := List.mem_map.mp hm
          exact List.mem_map.mpr ⟨p, sub p hp, e⟩
        · intro hm
          obtain ⟨p, hp, e⟩ := List.mem_map.mp hm
          rw [← e]
          exact g.all p (by rw [List.take_length]; exact hp)
      · cases he
    · cases he
theorem cr_sortV (hc : X.calm = true) (hu : X.A.units + 64 < cLine) : CallR X (.builtin "sorted") (rSortV X.K X.w) := by
  intro pins s σ H vs0 us0 Q I r h
  obtain ⟨a, us, xs, ds, Z, ρ, rfl, ha, rv, hr, ok, q⟩ := h
  rw [Vals.ref1 r]
  have R : SetV X.w s.heap a us := (I.hok a _ ha).1
  have ok' := ok
  simp only [sOk, Bool.and_eq_true] at ok'
  obtain ⟨⟨⟨hl, hg⟩, _⟩, _⟩ := ok'
  obtain ⟨as, ra⟩ := Dp.readsAll I (toPys ds) xs us (Reps.dp 16 ds xs hl hr) rv
  have pt : ∀ v ∈ us, ∃ x ∈ ds, ∃ y bs, ad s.heap v = x ∧ backD v = y ∧ Rep X.K Z ρ H x y ∧ RelV y v ∧ Reads s.heap v (toPy x) bs := fun v hv => by
    obtain ⟨j, hj, e⟩ := List.getElem_of_mem hv
    obtain ⟨x, bs, k1, k2⟩ := readsAll_at ra hj
    rw [e] at k2
    have hx := List.mem_of_getElem? k1
    obtain ⟨y, hy, ry⟩ := Reps.get hr k1
    obtain ⟨u, hu, ru⟩ := rv.get hy
    rw [List.getElem?_eq_getElem hj, e] at hu
    cases hu
    exact ⟨x, hx, y, bs, ad_eq (lays_mem hl hx) (gds_mem hg hx) k2, backD_rel (gds_mem hg hx) k2 ru, ry, ru, k2⟩
  have em : us.map (ad s.heap) = ds := by
    refine List.ext_getElem? fun j => ?_
    rw [List.getElem?_map]
    by_cases hj : j < us.length
    · obtain ⟨x, bs, k1, k2⟩ := readsAll_at ra hj
      have hx := List.mem_of_getElem? k1
      rw [List.getElem?_eq_getElem hj, k1]
      show some (ad s.heap us[j]) = some x
      rw [ad_eq (lays_mem hl hx) (gds_mem hg hx) k2]
    · have hl2 := readsAll_len ra
      rw [List.getElem?_eq_none (by omega), List.getElem?_eq_none (by omega)]; rfl
  refine sorted_setV (NtL.swo_lexL fun v => enc (ad s.heap v)) R (I.ok.hd hc) (fun vs pm h2 h1 g1 l hL old => ?_) fun s' p out c kp eg eo hp hob hs pm => ?_
  · obtain ⟨bs, rb⟩ := readsAll_ad (h := s.heap) (vs := vs) fun v hv => by
      obtain ⟨x, _, y, cs, e1, _, _, _, k⟩ := pt v (pm.mem_iff.mp hv)
      exact ⟨cs, by rw [e1]; exact k⟩
    have pd : ds.Perm (vs.map (ad s.heap)) := by
      rw [← em]
      exact (pm.map _).symm
    exact sortable_of rb (sOk_perm pd ok) h2 (by simp only [Around.in1_units]; omega) fun h' kp' b o g => kp' b o (old b o g).1 (old b o g).2
  · have ed : out.map (ad s.heap) = dSort ds := by
      refine dSort_uniq hg ?_ (List.pairwise_map.mpr hs)
      rw [← em]
      exact pm.map _
    have vo : Vals (out.map backD) out := by
      have : ∀ l : List Value, (∀ v ∈ l, v ∈ us) → Vals (l.map backD) l := fun l => by
        induction l with
        | nil => exact fun _ => .nil
        | cons v l ih =>
          intro hl
          obtain ⟨x, _, y, _, _, e2, _, ry, _⟩ := pt v (hl v List.mem_cons_self)
          exact .cons (by rw [e2]; exact ry) (ih fun u hu => hl u (List.mem_cons_of_mem _ hu))
      exact this out fun v hv => pm.mem_iff.mp hv
    have ro : Reps X.K Z ρ H (dSort ds) (out.map backD) := by
      refine reps_all (fun j d v hd hv => ?_) (by rw [← ed, List.length_map, List.length_map])
      rw [← ed, List.getElem?_map] at hd
      rw [List.getElem?_map] at hv
      cases ho : out[j]? with
      | none => rw [ho] at hd; cases hd
      | some u =>
        rw [ho] at hd hv
        cases hd; cases hv
        obtain ⟨x, _, y, _, e1, e2, ry, _, _⟩ := pt u (pm.mem_iff.mp (List.mem_of_getElem? ho))
        rw [e1, e2]; exact ry
    have lo : (out.map backD).length = xs.length := by
      rw [List.length_map, pm.length_eq, rv.length]
    have hlen : (out.map backD).length ≤ sizeLine := by
      obtain ⟨o, es, ep, t, _, _, _, eu, bd, _⟩ := R
      rw [List.length_map, pm.length_eq, ← eu, List.length_map, Array.length_toList]
      exact fits_of_scanBound bd
    have hn : H p = none := I.hok.fresh hp
    have J : Inv X pins σ (upd H p (.lst (out.map backD))) { s with heap := s'.heap, gens := s'.gens, drawn := s'.drawn, toks := s'.toks } :=
      I.call (ch := []) (Un.laid kp hp hn) (I.hok.laid kp hp ⟨hlen, out, c, vo, hob⟩) (by rw [eg]; exact I.bare) (fun _ z => nomatch z)
    have e : s' = { s with heap := s'.heap, gens := s'.gens, drawn := s'.drawn, toks := s'.toks } := by
      cases s'
      cases s
      cases eo
      rfl
    rw [e]
    exact ⟨.ref p, _, J, rfl, q _ p hn ro lo⟩
end
theorem leLay {w : Ws} {p : Addr} {o : HO} (hp : w.H p = none) : Le w (w.lay p o) := ⟨fun _ h => h, ⟨[], by simp⟩, fun b u h _ => (upd_ne (ne_of_none h hp)).trans h⟩
section
variable {X : Cx} {C : Cfg} {e : Expr} {f : ES D} {p p2 pos pos2 : Pos}
def dSrtU (ds : List D) : Option D := (uOf ds).bind fun es => if (decide (ds.length + 1 < scanBound) && sOk es) = true then some (.lst (dSort es)) else none
def dSortSetU : D → Option D
  | .lst ds => dSrtU ds
  | .tup ds => dSrtU ds
  | _ => none
def eSortSetU (f : ES D) : ES D := fun ε S => (f ε S).bind fun d ε S => R.opt (dSortSetU d) ε S
/-- sorted(set(xs)) -/
theorem de_sortSetU (hc : X.calm = true) (hu : X.A.units + 64 < cLine) (he : DE X C e f) (hm : X.mg "sorted" = none) (hm2 : X.mg "set" = none) (hg : Gl X "sorted" := by rfl) (hg2 : Gl X "set" := by rfl)
    (hs1 : starEach [e] X.env = (false, eval e X.env) :: starEach [] X.env := by rfl) (hp1 : (backTo pos2 (starEach [] X.env)).any (·.1) = false := by rfl)
    (hs2 : starEach [.Call (.Name "set" p2) [e] [] pos2] X.env = (false, eval (.Call (.Name "set" p2) [e] [] pos2) X.env) :: starEach [] X.env := by rfl) (hp2 : (backTo pos (starEach [] X.env)).any (·.1) = false := by rfl) :
    DE X C (.Call (.Name "sorted" p) [.Call (.Name "set" p2) [e] [] pos2] [] pos) (eSortSetU f) := by
  have h1 : PE X (.Call (.Name "set" p2) [e] [] pos2) _ := pe_callTy (cr_setU hc hu) hg2 hm2 (by decide +kernel) (pa_cons he pa_nil hs1) (he := hs1) (hpl := hp1)
  have h2 := pe_callB (pos := pos) (cr_sortV hc hu) hg hm (by decide +kernel) (pa_cons h1 pa_nil hs2) (p := p) (he := hs2) (hpl := hp2)
  refine PE_imp h2 fun σ H Q ⟨w, e1, e2, rl, q⟩ => ?_
  refine ⟨w, e1, e2, rl, POST.mono (POST.bind q) fun d w1 s1 m1 r1 ⟨_, _, _, q1⟩ v hv => ?_⟩
  obtain ⟨d', hd, q1⟩ := POST.opt q1
  have main : ∀ (l : Addr) (ds : List D) (xs : List V), v = .ref l → (SqL X.K w1.H l xs ∨ SqT X.K w1.H l xs) → Reps X.K w1.Z w1.ρ w1.H ds xs → dSrtU ds = some d' →
      rSetU X.K X.w [v] w1.H fun x H1 => rSortV X.K X.w [x] H1 Q := fun l ds xs ev hq hr hd => by
    subst ev
    unfold dSrtU at hd
    obtain ⟨es, h3, h4⟩ := bind_some hd
    obtain ⟨h5, h6⟩ := ite_some h4
    rw [Bool.and_eq_true, decide_eq_true_eq] at h5
    obtain ⟨h5, h7⟩ := h5
    refine ⟨l, ds, xs, w1.Z, w1.ρ, es, rfl, hq, hr, h3, h5, fun t es' ys us ht pm hr2 rv => ?_⟩
    have r2 : RelC X.K C (w1.lay t (SetVO X.w t us)) := r1.lay ht trivial
    have m2 : Mono w1 (w1.lay t (SetVO X.w t us)) := Mono.lay ht
    have hr3 : Reps X.K w1.Z w1.ρ (upd w1.H t (SetVO X.w t us)) es' ys := Reps.mono (w := w1) (w' := w1.lay t (SetVO X.w t us)) (leLay ht) es' ys hr2
    refine ⟨t, us, ys, es', w1.Z, w1.ρ, rfl, upd_same, rv, hr3, sOk_perm pm.symm h7, fun zs t2 ht2 hz hlz => ?_⟩
    have ed : dSort es' = dSort es := by
      have g1 : gds es = true := by
        have h7' := h7
        simp only [sOk, Bool.and_eq_true] at h7'
        exact h7'.1.1.2
      exact dSort_uniq g1 ((dSort_perm es').trans pm) (dSort_srtd es')
    rw [ed] at hz
    have so : SzOk (.lst zs) := by
      show zs.length ≤ sizeLine
      have l1 := Reps.length hz
      have l2 : (dSort es).length = es.length := (dSort_perm es).length_eq
      have l3 : es.length ≤ ds.length := by
        unfold uOf at h3
        split at h3
        · cases h3
          rw [List.length_map]
          exact Nat.le_trans ddL_len (by rw [List.length_map]; exact Nat.le_refl _)
        · split at h3
          · rename_i tt ht'
            split at h3
            · cases h3
              have e1 := tupsI_some ht'
              subst e1
              rw [List.length_map, List.length_map]
              exact ddL_len
            · cases h3
          · cases h3
      exact fits_of_scanBound (by omega)
    have r3 := r2.lay (p := t2) (o := .lst zs) ht2 so
    have m3 := m2.trans (Mono.lay (o := .lst zs) ht2)
    have ln := Lone.of (o := .lst zs) r2 ht2
    have h0 : w1.H t2 = none := m2.dom t2 ht2
    have hz4 : Reps X.K w1.Z w1.ρ (upd (upd w1.H t (SetVO X.w t us)) t2 (.lst zs)) (dSort es) zs := Reps.mono (w := w1.lay t (SetVO X.w t us)) (w' := (w1.lay t (SetVO X.w t us)).lay t2 (.lst zs)) (leLay ht2) _ _ hz
    obtain ⟨r4, k4⟩ := MOk.frz (m := .lst (dSort es)) r1 m3 h0 r3 ln ⟨_, upd_same, hz4⟩ fun _ _ z => nomatch z
    rw [← h6] at q1
    exact POST.at q1 (Mono.frz m3 h0) r4 rfl rfl rfl _ k4
  cases d with
  | lst ds =>
    obtain ⟨a, vs, ev, k1, k2⟩ := rep_lst.mp hv
    exact main a ds vs ev (.inl k1.sq) k2 hd
  | tup ds =>
    obtain ⟨a, vs, ev, k1, k2⟩ := rep_tup.mp hv
    exact main a ds vs ev (.inr k1.sq) k2 hd
  | _ => cases hd
end
/-! ### tuples of ints compared -/
def dLtT : D → D → Option D
  | .tup xs, .tup ys => (intsOf xs).bind fun ns => (intsOf ys).bind fun ms => some (.bl (HT.lexLt ns ms))
  | x, y => dLt x y
def rLtA (K : PySem.W.Frag) : V → V → Hp → VK → Prop := fun x y H Q => (rI0 (fun i j => .bl (decide (i < j))) x y H Q ∨ rLtS x y H Q) ∨ rLtT K x y H Q
theorem op_ltA {X : Cx} (hu : X.A.units + 64 < cLine) : OpR X (compareOp .Lt) (rLtA X.K) := OpR_or op_ltD (op_ltT (by omega))
theorem ok_ltA {K : PySem.W.Frag} : OpG K (rLtA K) dLtT := fun Z ρ H x y dx dy d Q sz hx hy hd gr => by
  unfold dLtT at hd
  split at hd
  · obtain ⟨ns, h1, hd⟩ := bind_some hd
    obtain ⟨ms, h2, hd⟩ := bind_some hd
    cases hd
    obtain ⟨a, vs, ea, k1, k2⟩ := rep_tup.mp hx
    obtain ⟨b, ws, eb, k3, k4⟩ := rep_tup.mp hy
    have e1 := intsOf_some h1
    have e2 := intsOf_some h2
    subst e1; subst e2
    rw [reps_ints k2] at k1
    rw [reps_ints k4] at k3
    exact .inr ⟨a, b, ns, ms, ea, eb, k1.sq, k3.sq, gr.now sz (by simp)⟩
  · exact .inl (ok_lt Z ρ H x y dx dy d Q sz hx hy hd gr)
end DL
namespace DL
open L2 PyProof.Rows PySem PySem.Spec
variable [TabT]
/-! ### running the meanings -/
section
variable {ε ε1 ε2 ε3 : EV} {S S1 S2 S3 : Sto} {d x y z : D} {ds : List D} {m m0 m' : MO} {n i : Nat}
theorem eFrz_ok {f : ES MO} (h : f ε S = .ok m ε1 S1) : eFrz f ε S = .ok m.toD ε1 S1 := by unfold eFrz; rw [h]; rfl
theorem eOpP_ok {op : D → D → Option D} {fa fb : ES D} (h1 : fa ε S = .ok x ε1 S1) (h2 : fb ε1 S1 = .ok y ε2 S2) (h3 : op x y = some z) : eOpP op fa fb ε S = .ok z ε2 S2 := by
  unfold eOpP eOp; rw [h1]; dsimp only [R.bind]; rw [h2]; dsimp only; rw [h3]; rfl
theorem ePure_ok {f : PF} (h : f ε S = some d) (hl : lf d = true) : ePure f ε S = .ok d ε S := by unfold ePure; rw [h]; dsimp only; rw [if_pos hl]
theorem eTup_ok {f : ES (List D)} (h : f ε S = .ok ds ε1 S1) : eTup f ε S = .ok (.tup ds) ε1 S1 := by unfold eTup; rw [h]; rfl
theorem eLst_ok {f : ES (List D)} (h : f ε S = .ok ds ε1 S1) : eLst f ε S = .ok (.lst ds) ε1 S1 := by unfold eLst; rw [h]; rfl
theorem aCons_ok {f : ES D} {g : ES (List D)} (h1 : f ε S = .ok x ε1 S1) (h2 : g ε1 S1 = .ok ds ε2 S2) : aCons f g ε S = .ok (x :: ds) ε2 S2 := by
  unfold aCons; rw [h1]; dsimp only [R.bind]; rw [h2]
theorem eCallP_ok {op : List D → Option D} {fa : ES (List D)} (h : fa ε S = .ok ds ε1 S1) (h2 : op ds = some d) : eCallP op fa ε S = .ok d ε1 S1 := by
  unfold eCallP; rw [h]; dsimp only [R.bind]; rw [h2]; rfl
theorem eCall_ok {F : FS} {fa : ES (List D)} (h : fa ε S = .ok ds ε1 S1) (h2 : F ds S1 = .ok d S2) : eCall F fa ε S = .ok d ε1 S2 := by
  unfold eCall; rw [h]; dsimp only [R.bind]; rw [h2]
theorem eCall0_ok {F : FS} (h2 : F [] S = .ok d S2) : eCall0 F ε S = .ok d ε S2 := by
  unfold eCall0 callR; rw [h2]
theorem eMeth_ok {c : Nat} {mm : Str} {F : FS} {fo : ES D} {fa : ES (List D)} (h : fo ε S = .ok x ε1 S1) (hc : clsOf c mm S1 x = true) (ha : fa ε1 S1 = .ok ds ε2 S2) (h2 : F (x :: ds) S2 = .ok d S3) : eMeth c mm F fo fa ε S = .ok d ε2 S3 := by
  unfold eMeth; rw [h]; dsimp only [R.bind]; rw [if_pos hc, ha]; dsimp only; unfold callR; rw [h2]
theorem eMeth0_ok {c : Nat} {mm : Str} {F : FS} {fo : ES D} (h : fo ε S = .ok x ε1 S1) (hc : clsOf c mm S1 x = true) (h2 : F [x] S1 = .ok d S2) : eMeth0 c mm F fo ε S = .ok d ε1 S2 := by
  unfold eMeth0; rw [h]; dsimp only [R.bind]; rw [if_pos hc]; unfold callR; rw [h2]
theorem eMake_ok {c : Nat} {F : FS} {fa : ES (List D)} (h : fa ε S = .ok ds ε1 S1) (h2 : F (.ref S1.length :: ds) (S1 ++ [.obj c []]) = .ok .non S2) : eMake c F fa ε S = .ok (.ref S1.length) ε1 S2 := by
  unfold eMake; rw [h]; dsimp only [R.bind]; rw [h2]
theorem eFld_ok {c : Nat} {f : Str} {g : ES D} (h : g ε S = .ok x ε1 S1) (h2 : fldOf c f S1 x = some d) : eFld c f g ε S = .ok d ε1 S1 := by
  unfold eFld; rw [h]; dsimp only [R.bind]; rw [h2]; rfl
theorem eMut_ok {T : String} {fo : ES Plc} {op : MO → List D → Option (D × MO)} {fa : ES (List D)} {l : Plc} (ho : fo ε S = .ok l ε1 S1) (g0 : getM l ε1 S1 = some m0) (ht : tyM T m0 = true) (ha : fa ε1 S1 = .ok ds ε2 S2) (g : getM l ε2 S2 = some m) (hop : op m ds = some (d, m')) :
    eMut T fo op fa ε S = .ok d (putE l m' ε2) (putS l m' S2) := by
  unfold eMut; rw [ho]; dsimp only [R.bind]; rw [g0]; dsimp only; rw [if_pos ht, ha]; dsimp only; rw [g]; dsimp only; rw [hop]
theorem oSlot_ok (g : getM (.slot i) ε S = some m) : oSlot i ε S = .ok (.slot i) ε S := by unfold oSlot; rw [g]
theorem oRef_ok {f : ES D} (h : f ε S = .ok (.ref n) ε1 S1) (hn : n < S1.length) : oRef f ε S = .ok (.sto n) ε1 S1 := by
  unfold oRef; rw [h]; dsimp only [R.bind]; rw [if_pos hn]
theorem eNew_ok {f : ES MO} (h : f ε S = .ok m ε1 S1) : eNew f ε S = .ok (.ref S1.length) ε1 (S1 ++ [m]) := by unfold eNew; rw [h]; rfl
theorem eComp_ok {it : ES (List D)} {g : GS} {t : ES Bool} {f : ES D} {vs : List Nat} {ys : List D} (h : it ε S = .ok ds ε1 S1) (hl : lcL g t f vs ds (wipeE ε1 vs) S1 = .ok ys ε2 S2) : eComp it g t f vs ε S = .ok (.lst ys) (backE ε1 ε2 vs) S2 := by
  unfold eComp; rw [h]; dsimp only [R.bind]; rw [hl]; rfl
theorem eIf_t {t : ES Bool} {f g : ES D} {r : R D} (h : t ε S = .ok true ε1 S1) (h2 : f ε1 S1 = r) : eIf t f g ε S = r := by unfold eIf; rw [h]; exact h2
theorem eIf_f {t : ES Bool} {f g : ES D} {r : R D} (h : t ε S = .ok false ε1 S1) (h2 : g ε1 S1 = r) : eIf t f g ε S = r := by unfold eIf; rw [h]; exact h2
theorem eSl_ok {f : ES D} {lo hi : EV → Sto → Option (Option Int)} {l u : Option Int} (h : f ε S = .ok x ε1 S1) (h1 : lo ε1 S1 = some l) (h2 : hi ε1 S1 = some u) (h3 : dSl x l u = some d) : eSl f lo hi ε S = .ok d ε1 S1 := by
  unfold eSl; rw [h]; dsimp only [R.bind]; rw [h1]; dsimp only [Option.bind]; rw [h2]; dsimp only; rw [h3]; rfl
theorem eNotT_ok {f : ES D} {b : Bool} (h : f ε S = .ok x ε1 S1) (h2 : dTru x = some b) : eNotT f ε S = .ok (.bl (!b)) ε1 S1 := by unfold eNotT; rw [h]; dsimp only [R.bind]; rw [h2]; rfl
theorem iSeq_ok {f : ES D} (h : f ε S = .ok x ε1 S1) (h2 : seqOf x = some ds) : iSeq f ε S = .ok ds ε1 S1 := by unfold iSeq; rw [h]; dsimp only [R.bind]; rw [h2]; rfl
theorem iRange1_ok {fa : ES (List D)} {j : Int} (h : fa ε S = .ok [.int j] ε1 S1) (h2 : rngOk 0 j = true) : iRange fa ε S = .ok (rngD 0 j.toNat) ε1 S1 := by unfold iRange; rw [h]; dsimp only [R.bind]; rw [if_pos h2]
theorem iRange2_ok {fa : ES (List D)} {i j : Int} (h : fa ε S = .ok [.int i, .int j] ε1 S1) (h2 : rngOk i j = true) : iRange fa ε S = .ok (rngD i (j - i).toNat) ε1 S1 := by unfold iRange; rw [h]; dsimp only [R.bind]; rw [if_pos h2]
theorem iZip_ok {fa : ES (List D)} {ps : List (D × D)} (h : fa ε S = .ok ds ε1 S1) (h2 : zipD ds = some ps) : iZipD fa ε S = .ok (ps.map fun p => .tup [p.1, p.2]) ε1 S1 := by unfold iZipD; rw [h]; dsimp only [R.bind]; rw [h2]; rfl
/-! tests -/
theorem ePT_ok {f : EV → Sto → Option Bool} {b : Bool} (h : f ε S = some b) : ePT f ε S = .ok b ε S := by unfold ePT; rw [h]; rfl
theorem tOf_ok {f : ES D} {b : Bool} (h : f ε S = .ok (.bl b) ε1 S1) : tOf f ε S = .ok b ε1 S1 := by unfold tOf; rw [h]; rfl
theorem tTruE_ok {f : ES D} {b : Bool} (h : f ε S = .ok x ε1 S1) (h2 : dTru x = some b) : tTruE f ε S = .ok b ε1 S1 := by unfold tTruE; rw [h]; dsimp only [R.bind]; rw [h2]; rfl
theorem tNotE_ok {f : ES Bool} {b : Bool} (h : f ε S = .ok b ε1 S1) : tNotE f ε S = .ok (!b) ε1 S1 := by unfold tNotE; rw [h]; rfl
theorem tOrE_f {f g : ES Bool} {r : R Bool} (h : f ε S = .ok false ε1 S1) (h2 : g ε1 S1 = r) : tOrE f g ε S = r := by unfold tOrE; rw [h]; exact h2
theorem tOrE_t {f g : ES Bool} (h : f ε S = .ok true ε1 S1) : tOrE f g ε S = .ok true ε1 S1 := by unfold tOrE; rw [h]; rfl
theorem tAndE_t {f g : ES Bool} {r : R Bool} (h : f ε S = .ok true ε1 S1) (h2 : g ε1 S1 = r) : tAndE f g ε S = r := by unfold tAndE; rw [h]; exact h2
theorem tAndE_f {f g : ES Bool} (h : f ε S = .ok false ε1 S1) : tAndE f g ε S = .ok false ε1 S1 := by unfold tAndE; rw [h]; rfl
/-! pure -/
theorem pOp_ok {op : D → D → Option D} {fa fb : PF} (h1 : fa ε S = some x) (h2 : fb ε S = some y) (h3 : op x y = some z) : pOp op fa fb ε S = some z := by unfold pOp; rw [h1]; dsimp only [Option.bind]; rw [h2]; exact h3
theorem pAt_ok {f : PF} (h1 : f ε S = some (.ref n)) (h2 : S[n]? = some (.lst ds)) : pAt f ε S = some (.lst ds) := by unfold pAt; rw [h1]; dsimp only [Option.bind]; rw [h2]
theorem pFld_ok {c : Nat} {f : Str} {g : PF} (h1 : g ε S = some x) (h2 : fldOf c f S x = some d) : pFld c f g ε S = some d := by unfold pFld; rw [h1]; exact h2
theorem pCall_ok {op : List D → Option D} {f : EV → Sto → Option (List D)} (h1 : f ε S = some ds) (h2 : op ds = some d) : pCall op f ε S = some d := by unfold pCall; rw [h1]; exact h2
theorem pCons_ok {f : PF} {g : EV → Sto → Option (List D)} (h1 : f ε S = some x) (h2 : g ε S = some ds) : pCons f g ε S = some (x :: ds) := by unfold pCons; rw [h1]; dsimp only [Option.bind]; rw [h2]
theorem pTup_ok {g : EV → Sto → Option (List D)} (h : g ε S = some ds) (hl : ds.length ≤ sizeLine) : pTup g ε S = some (.tup ds) := by unfold pTup; rw [h]; dsimp only [Option.bind]; rw [if_pos hl]
theorem pLst_ok {g : EV → Sto → Option (List D)} (h : g ε S = some ds) (hl : ds.length ≤ sizeLine) : pLst g ε S = some (.lst ds) := by unfold pLst; rw [h]; dsimp only [Option.bind]; rw [if_pos hl]
theorem pUn_ok {op : D → Option D} {f : PF} (h : f ε S = some x) (h2 : op x = some d) : pUn op f ε S = some d := by unfold pUn; rw [h]; exact h2
theorem pIs_ok {T : String} {f : PF} (h : f ε S = some x) (h2 : isT T x = some d) : pIs T f ε S = some d := by unfold pIs; rw [h]; exact h2
theorem pPt_ok {f : PF} {j : Int} (h : f ε S = some (.int j)) : pPt f ε S = some (some j) := by unfold pPt; rw [h]; rfl
theorem pSl_ok {f : PF} {lo hi : EV → Sto → Option (Option Int)} {l u : Option Int} (h : f ε S = some x) (h1 : lo ε S = some l) (h2 : hi ε S = some u) (h3 : dSl x l u = some d) : pSl f lo hi ε S = some d := by
  unfold pSl; rw [h]; dsimp only [Option.bind]; rw [h1]; dsimp only; rw [h2]; exact h3
theorem pTru_ok {f : PF} {b : Bool} (h : f ε S = some x) (h2 : dTru x = some b) : pTru f ε S = some b := by unfold pTru; rw [h]; exact h2
theorem pB_ok {f : PF} {b : Bool} (h : f ε S = some (.bl b)) : pB f ε S = some b := by unfold pB; rw [h]; rfl
theorem pNot_ok {f : PB} {b : Bool} (h : f ε S = some b) : pNot f ε S = some (!b) := by unfold pNot; rw [h]; rfl
theorem pAnd_t {f g : PB} {o : Option Bool} (h : f ε S = some true) (h2 : g ε S = o) : pAnd f g ε S = o := by unfold pAnd; rw [h]; exact h2
theorem pAnd_f {f g : PB} (h : f ε S = some false) : pAnd f g ε S = some false := by unfold pAnd; rw [h]; rfl
theorem pOr_t {f g : PB} (h : f ε S = some true) : pOr f g ε S = some true := by unfold pOr; rw [h]; rfl
theorem pOr_f {f g : PB} {o : Option Bool} (h : f ε S = some false) (h2 : g ε S = o) : pOr f g ε S = o := by unfold pOr; rw [h]; exact h2
theorem pIf_t {t : PB} {f g : PF} {o : Option D} (h : t ε S = some true) (h2 : f ε S = o) : pIf t f g ε S = o := by unfold pIf; rw [h]; exact h2
theorem pIf_f {t : PB} {f g : PF} {o : Option D} (h : t ε S = some false) (h2 : g ε S = o) : pIf t f g ε S = o := by unfold pIf; rw [h]; exact h2
theorem pAndV_t {f g : PF} {o : Option D} (h : f ε S = some (.bl true)) (h2 : g ε S = o) : pAndV f g ε S = o := by unfold pAndV; rw [h]; exact h2
theorem pAndV_f {f g : PF} (h : f ε S = some (.bl false)) : pAndV f g ε S = some (.bl false) := by unfold pAndV; rw [h]; rfl
/-! statements -/
theorem sSeq_nx {g1 g2 : SS} {r : SR} (h1 : g1 ε S = .nx ε1 S1) (h2 : g2 ε1 S1 = r) : sSeq g1 g2 ε S = r := by unfold sSeq; rw [h1]; exact h2
theorem sSeq_rt {g1 g2 : SS} (h1 : g1 ε S = .rt d ε1 S1) : sSeq g1 g2 ε S = .rt d ε1 S1 := by unfold sSeq; rw [h1]
theorem sSeq_ex {g1 g2 : SS} {c : Nat} (h1 : g1 ε S = .ex c ε1 S1) : sSeq g1 g2 ε S = .ex c ε1 S1 := by unfold sSeq; rw [h1]
theorem sSeq_bk {g1 g2 : SS} (h1 : g1 ε S = .bk ε1 S1) : sSeq g1 g2 ε S = .bk ε1 S1 := by unfold sSeq; rw [h1]
theorem sIf_t {c : ES Bool} {g1 g2 : SS} {r : SR} (h1 : c ε S = .ok true ε1 S1) (h2 : g1 ε1 S1 = r) : sIf c g1 g2 ε S = r := by unfold sIf; rw [h1]; exact h2
theorem sIf_f {c : ES Bool} {g1 g2 : SS} {r : SR} (h1 : c ε S = .ok false ε1 S1) (h2 : g2 ε1 S1 = r) : sIf c g1 g2 ε S = r := by unfold sIf; rw [h1]; exact h2
theorem sRet_ok {f : ES D} (h : f ε S = .ok d ε1 S1) : sRet f ε S = .rt d ε1 S1 := by unfold sRet; rw [h]; rfl
theorem sExpr_ok {f : ES D} (h : f ε S = .ok d ε1 S1) : sExpr f ε S = .nx ε1 S1 := by unfold sExpr; rw [h]; rfl
theorem sSet_ok {f : ES D} (h : f ε S = .ok d ε1 S1) : sSet i f ε S = .nx (ε1.set i (some (.val d))) S1 := by unfold sSet; rw [h]; rfl
theorem sOwn_ok {f : ES MO} (h : f ε S = .ok m ε1 S1) : sOwn i f ε S = .nx (ε1.set i (some (.own m))) S1 := by unfold sOwn; rw [h]; rfl
theorem sAsg_ok {f : ES D} {g : GS} (h : f ε S = .ok d ε1 S1) (h2 : g d ε1 S1 = .ok () ε2 S2) : sAsg f g ε S = .nx ε2 S2 := by unfold sAsg; rw [h]; dsimp only [R.toS]; rw [h2]; rfl
theorem gSub_ok {fo : ES Plc} {op : MO → D → D → Option MO} {fi : ES D} {l : Plc} (ho : fo ε S = .ok l ε1 S1) (hi : fi ε1 S1 = .ok x ε2 S2) (g : getM l ε2 S2 = some m) (hop : op m x d = some m') : gSub fo op fi d ε S = .ok () (putE l m' ε2) (putS l m' S2) := by
  unfold gSub; rw [ho]; dsimp only [R.bind]; rw [hi]; dsimp only; rw [g]; dsimp only; rw [hop]
theorem gSeq_tup {g : GSs} {r : R Unit} (hl : ds.length = n) (h : g ds ε S = r) : gSeqD n g (.tup ds) ε S = r := by
  show (if ds.length = n then g ds ε S else .stuck) = r
  rw [if_pos hl]; exact h
theorem ggCons_ok {g : GS} {h : GSs} {r : R Unit} (h1 : g d ε S = .ok () ε1 S1) (h2 : h ds ε1 S1 = r) : ggCons g h (d :: ds) ε S = r := by
  show (g d ε S).bind (fun _ ε S => h ds ε S) = r
  rw [h1]; exact h2
theorem sFldS_ok {c : Nat} {f : Str} {fo fv : ES D} (h1 : fv ε S = .ok d ε1 S1) (h2 : fo ε1 S1 = .ok x ε2 S2) (h3 : setFld c f d S2 x = some S3) : sFldS c f fo fv ε S = .nx ε2 S3 := by
  unfold sFldS; rw [h1]; dsimp only [R.toS]; rw [h2]; dsimp only; rw [h3]; rfl
theorem sFor_ok {it : ES (List D)} {g : GS} {b : SS} {r : SR} (h : it ε S = .ok ds ε1 S1) (h2 : sForL g b ds ε1 S1 = r) : sFor it g b ε S = r := by unfold sFor; rw [h]; exact h2
theorem semOf_nx {N : Nat} {b : SS} (h : b (startE N ds) S = .nx ε1 S1) : semOf N b ds S = .ok .non S1 := by unfold semOf; rw [h]
theorem semOf_rt {N : Nat} {b : SS} (h : b (startE N ds) S = .rt d ε1 S1) : semOf N b ds S = .ok d S1 := by unfold semOf; rw [h]
theorem semOf_ex {N : Nat} {b : SS} {c : Nat} (h : b (startE N ds) S = .ex c ε1 S1) : semOf N b ds S = .ex c S1 := by unfold semOf; rw [h]
theorem sPar_ok {is : List Nat} {h : ES (List SV)} {svs : List SV} (h1 : h ε S = .ok svs ε1 S1) (h2 : is.length = svs.length) : sPar is h ε S = .nx (setAll is svs ε1) S1 := by
  unfold sPar; rw [h1]; dsimp only [R.toS]; rw [if_pos h2]
theorem xVal_ok {f : ES D} {h : ES (List SV)} {svs : List SV} (h1 : f ε S = .ok d ε1 S1) (h2 : h ε1 S1 = .ok svs ε2 S2) : xVal f h ε S = .ok (.val d :: svs) ε2 S2 := by
  unfold xVal; rw [h1]; dsimp only [R.bind]; rw [h2]
theorem xOwn_ok {g : ES MO} {h : ES (List SV)} {svs : List SV} (h1 : g ε S = .ok m ε1 S1) (h2 : h ε1 S1 = .ok svs ε2 S2) : xOwn g h ε S = .ok (.own m :: svs) ε2 S2 := by
  unfold xOwn; rw [h1]; dsimp only [R.bind]; rw [h2]
theorem as_eq {α : Sort _} {a b c : α} (h : a = b) (e : b = c) : a = c := h.trans e
theorem set_self {l : Sto} {n : Nat} {x : MO} (h : l[n]? = some x) : l.set n x = l := by
  refine List.ext_getElem? fun j => ?_
  by_cases e : n = j
  · subst e
    rw [List.getElem?_set_self (List.getElem?_eq_some_iff.mp h).1, h]
  · rw [List.getElem?_set_ne e]
theorem dMod_lit {a b : Int} (h : decide (0 < b) = true) : dMod (.int a) (.int b) = some (.int (a % b)) := by
  show (if 0 < b then some (D.int (a % b)) else none) = _
  rw [if_pos (of_decide_eq_true h)]
theorem dDiv_lit {a b : Int} (h : (decide (0 < b) && decide (b < 1073741824)) = true) : dDiv (.int a) (.int b) = some (.int (a / b)) := by
  show (if (decide (0 < b) && decide (b < 1073741824)) = true then some (D.int (a / b)) else none) = _
  rw [if_pos h]
theorem dMul_l {a b : Int} (h : small64' a = true) : dMul (.int a) (.int b) = some (.int (a * b)) := by
  show (if (small64' a || small64' b) = true then some (D.int (a * b)) else none) = _
  rw [h]; rfl
theorem dMul_r {a b : Int} (h : small64' b = true) : dMul (.int a) (.int b) = some (.int (a * b)) := by
  show (if (small64' a || small64' b) = true then some (D.int (a * b)) else none) = _
  rw [h, Bool.or_true]; rfl
theorem small_mod {a b : Int} (h : 0 < b) (h2 : b < 18446744073709551616) : small64' (a % b) = true := by
  have h1 := Int.emod_nonneg a (Int.ne_of_gt h)
  have h3 := Int.emod_lt_of_pos a h
  unfold small64'
  simp only [Bool.and_eq_true, decide_eq_true_eq]
  omega
theorem dAdd_int {a b : Int} : dAdd (.int a) (.int b) = some (.int (a + b)) := rfl
theorem dAdd_lst {a b : List D} (h : a.length + b.length ≤ sizeLine) : dAdd (.lst a) (.lst b) = some (.lst (a ++ b)) := by
  show (if a.length + b.length ≤ sizeLine then some (D.lst (a ++ b)) else none) = _
  rw [if_pos h]
theorem mAppend_lt {ds : List D} {d : D} (h : ds.length < sizeLine) : mAppend (.lst ds) [d] = some (.non, .lst (ds ++ [d])) := by
  show (if ds.length < sizeLine then some (D.non, MO.lst (ds ++ [d])) else none) = _
  rw [if_pos h]
theorem dIdx_at {ds : List D} {i : Int} {d : D} (h0 : 0 ≤ i) (h : ds[i.toNat]? = some d) : dIdx (.lst ds) (.int i) = some d := by
  have hl := (List.getElem?_eq_some_iff.mp h).1
  show atI ds i = some d
  unfold atI ixN
  rw [if_pos h0, if_pos (by omega)]
  exact h
theorem dIdx_tup {ds : List D} {i : Int} {d : D} (h0 : 0 ≤ i) (h : ds[i.toNat]? = some d) : dIdx (.tup ds) (.int i) = some d := dIdx_at h0 h
theorem dIdx_last {ds : List D} {d : D} (h : ds[ds.length - 1]? = some d) : dIdx (.lst ds) (.int (-1)) = some d := by
  have hl := (List.getElem?_eq_some_iff.mp h).1
  show atI ds (-1) = some d
  unfold atI ixN
  rw [if_neg (by decide), if_pos (by omega), show ((-1 : Int) + ds.length).toNat = ds.length - 1 by omega]
  exact h
theorem mSetL_at {ds : List D} {i : Int} {d : D} (h0 : 0 ≤ i) (h : i.toNat < ds.length) : mSetL (.lst ds) (.int i) d = some (.lst (ds.set i.toNat d)) := by
  show ((ixN ds.length i).map fun j => MO.lst (ds.set j d)) = _
  unfold ixN
  rw [if_pos h0, if_pos (by omega)]; rfl
theorem dMax_some {ns : List Int} (h : 0 < ns.length) : dMax [.lst (ns.map D.int)] = some (.int (maxI ns)) := by
  show ((intsOf (ns.map D.int)).bind fun ns => if 0 < ns.length then some (D.int (maxI ns)) else none) = _
  rw [intsOf_map]
  exact if_pos h
/-! loops -/
/-- behind k items Inv k; the body goes on, or leaves with r where Inv leaves no other way -/
theorem for_inv {g : GS} {b : SS} (Inv : Nat → EV → Sto → Prop) : ∀ (ds : List D) (k : Nat) (ε : EV) (S : Sto), Inv k ε S →
    (∀ (j : Nat) (d : D) (ε : EV) (S : Sto), ds[j]? = some d → Inv (k + j) ε S → ∃ ε1 S1, g d ε S = .ok () ε1 S1 ∧ ∃ ε2 S2, (b ε1 S1 = .nx ε2 S2 ∨ b ε1 S1 = .ct ε2 S2) ∧ Inv (k + j + 1) ε2 S2) →
    ∃ ε' S', sForL g b ds ε S = .nx ε' S' ∧ Inv (k + ds.length) ε' S'
  | [], k, ε, S, h, _ => ⟨ε, S, rfl, h⟩
  | d :: ds, k, ε, S, h, hs => by
    obtain ⟨ε1, S1, h1, ε2, S2, h2, h3⟩ := hs 0 d ε S rfl h
    obtain ⟨ε', S', h4, h5⟩ := for_inv Inv ds (k + 1) ε2 S2 h3 (fun j d' ε S hd hi => by
      have := hs (j + 1) d' ε S (by simpa using hd) (by rw [show k + (j + 1) = k + 1 + j by omega]; exact hi)
      rw [show k + (j + 1) + 1 = k + 1 + j + 1 by omega] at this
      exact this)
    refine ⟨ε', S', ?_, by rw [show k + (d :: ds).length = k + 1 + ds.length by simp; omega]; exact h5⟩
    unfold sForL
    rw [h1]
    dsimp only
    rcases h2 with h2 | h2
    · rw [h2]; exact h4
    · rw [h2]; exact h4
/-- a while: the measure falls -/
theorem while_inv {c : ES Bool} {b : SS} (Inv : Nat → EV → Sto → Prop) (Post : EV → Sto → Prop) (hs : ∀ m ε S, Inv m ε S → (∃ ε1 S1, c ε S = .ok false ε1 S1 ∧ Post ε1 S1) ∨ ∃ ε1 S1, c ε S = .ok true ε1 S1 ∧ ∃ ε2 S2, (b ε1 S1 = .nx ε2 S2 ∨ b ε1 S1 = .ct ε2 S2) ∧ ∃ m', m' < m ∧ Inv m' ε2 S2) :
    ∀ (n m : Nat) (ε : EV) (S : Sto), Inv m ε S → m < n → ∃ ε' S', sWhileN c b n ε S = .nx ε' S' ∧ Post ε' S'
  | 0, m, ε, S, _, h => absurd h (Nat.not_lt_zero _)
  | n + 1, m, ε, S, hi, h => by
    unfold sWhileN
    rcases hs m ε S hi with ⟨ε1, S1, h1, h2⟩ | ⟨ε1, S1, h1, ε2, S2, h2, m', hm, h3⟩
    · refine ⟨ε1, S1, ?_, h2⟩
      rw [h1]; rfl
    · obtain ⟨ε', S', h4, h5⟩ := while_inv Inv Post hs n m' ε2 S2 h3 (by omega)
      refine ⟨ε', S', ?_, h5⟩
      rw [h1]
      dsimp only [R.toS]
      rw [if_pos rfl]
      rcases h2 with h2 | h2
      · rw [h2]; exact h4
      · rw [h2]; exact h4
/-- a comprehension with one name, without a test; what is made is told by Q, the store goes by P -/
theorem comp_inv {f : ES D} {i : Nat} {ε : EV} (P : Nat → Sto → Prop) (Q : D → D → Prop) : ∀ (ds : List D) (k : Nat) (S : Sto), P k S →
    (∀ (j : Nat) (d : D) (S : Sto), ds[j]? = some d → P (k + j) S → ∃ y S', f ((wipeE ε [i]).set i (some (.val d))) S = .ok y ((wipeE ε [i]).set i (some (.val d))) S' ∧ P (k + j + 1) S' ∧ Q d y) →
    ∃ ys S', lcL (gVar i) tYesD f [i] ds (wipeE ε [i]) S = .ok ys (wipeE ε [i]) S' ∧ P (k + ds.length) S' ∧ ys.length = ds.length ∧ ∀ (j : Nat) d y, ds[j]? = some d → ys[j]? = some y → Q d y
  | [], k, S, h, _ => ⟨[], S, rfl, h, rfl, fun j d y hd => by simp at hd⟩
  | d :: ds, k, S, h, hs => by
    obtain ⟨y, S1, h1, h2, h3⟩ := hs 0 d S rfl h
    obtain ⟨ys, S', k1, k2, k3, k4⟩ := comp_inv P Q ds (k + 1) S1 h2 (fun j d' S hd hp => by
      have := hs (j + 1) d' S (by simpa using hd) (by rw [show k + (j + 1) = k + 1 + j by omega]; exact hp)
      rw [show k + (j + 1) + 1 = k + 1 + j + 1 by omega] at this
      exact this)
    refine ⟨y :: ys, S', ?_, by rw [show k + (d :: ds).length = k + 1 + ds.length by simp; omega]; exact k2, by simp [k3], fun j d' y' hd hy => ?_⟩
    · have ew : wipeE ((wipeE ε [i]).set i (some (.val d))) [i] = wipeE ε [i] := by
        simp only [wipeE, List.set_set]
      unfold lcL gVar tYesD
      dsimp only [R.bind]
      rw [if_pos rfl, h1]
      dsimp only
      rw [ew]
      have k1' : lcL (fun d ε S => .ok () (ε.set i (some (.val d))) S) (fun ε S => .ok true ε S) f [i] ds (wipeE ε [i]) S1 = .ok ys (wipeE ε [i]) S' := k1
      rw [k1']
    · cases j with
      | zero =>
        simp only [List.getElem?_cons_zero, Option.some.injEq] at hd hy
        subst hd; subst hy; exact h3
      | succ j => exact k4 j d' y' (by simpa using hd) (by simpa using hy)
theorem comp_map {f : ES D} {i : Nat} {ε : EV} {S : Sto} {F : D → D} (ds : List D) (h : ∀ d ∈ ds, f ((wipeE ε [i]).set i (some (.val d))) S = .ok (F d) ((wipeE ε [i]).set i (some (.val d))) S) :
    lcL (gVar i) tYesD f [i] ds (wipeE ε [i]) S = .ok (ds.map F) (wipeE ε [i]) S := by
  obtain ⟨ys, S', h1, h2, h3, h4⟩ := comp_inv (f := f) (i := i) (ε := ε) (fun _ S' => S' = S) (fun d y => y = F d) ds 0 S rfl (fun j d S1 hd hS => by
    subst hS
    exact ⟨F d, S1, h d (List.mem_of_getElem? hd), rfl, rfl⟩)
  subst h2
  rw [h1]
  congr 1
  refine List.ext_getElem? fun j => ?_
  rw [List.getElem?_map]
  by_cases hj : j < ds.length
  · have e1 := List.getElem?_eq_getElem hj
    have e2 := List.getElem?_eq_getElem (show j < ys.length by rw [h3]; exact hj)
    rw [e1, e2, h4 j _ _ e1 e2] <;> rfl
  · rw [List.getElem?_eq_none (by omega), List.getElem?_eq_none (by omega)] <;> rfl
end
end DL
namespace LW
open DL L2 PyProof.Rows PySem PySem.Spec
variable [TabT]
def topD (i : Nat) : Stmt := PySem.Challenge.pw_meetloft_k01_books_told.main.body.getD i (.Pass ⟨0, 0, 0, 0⟩)
structure Cs where
  z : Nat := 0
abbrev excR : Nat → Value := Value.ref
def fuel : Nat := 1000000
abbrev st_Ldraw : Stmt := (topD 10)
abbrev N_Ldraw : List Str := ["_law_script", "_law_town", "_law_many", "_law_cell", "_law_k", "_law_digits", "_law_number", "_law_more"]
theorem sc_Ldraw : FnScope N_Ldraw ["_law_script", "_law_town", "_law_many"] (defScope st_Ldraw) := ⟨rfl, rfl, rfl, by decide +kernel, rfl, by decide +kernel, by decide +kernel⟩
abbrev st_Lpick : Stmt := (topD 11)
abbrev N_Lpick : List Str := ["_law_script", "_law_town", "_law_some"]
theorem sc_Lpick : FnScope N_Lpick ["_law_script", "_law_town", "_law_some"] (defScope st_Lpick) := ⟨rfl, rfl, rfl, by decide +kernel, rfl, by decide +kernel, by decide +kernel⟩
abbrev st_Ldrawn_rows : Stmt := (topD 13)
abbrev N_Ldrawn_rows : List Str := ["_law_script", "_law_town", "_law_width", "_law_most", "_law_far", "_law_found", "_law_k", "_law_row", "_law_j"]
theorem sc_Ldrawn_rows : FnScope N_Ldrawn_rows ["_law_script", "_law_town", "_law_width", "_law_most", "_law_far"] (defScope st_Ldrawn_rows) := ⟨rfl, rfl, rfl, by decide +kernel, rfl, by decide +kernel, by decide +kernel⟩
abbrev st_Ldrawn_book : Stmt := (topD 14)
abbrev N_Ldrawn_book : List Str := ["_law_script", "_law_town", "_law_most", "_law_far", "_law_found", "_law_word", "_law_width"]
theorem sc_Ldrawn_book : FnScope N_Ldrawn_book ["_law_script", "_law_town", "_law_most", "_law_far"] (defScope st_Ldrawn_book) := ⟨rfl, rfl, rfl, by decide +kernel, rfl, by decide +kernel, by decide +kernel⟩
abbrev st_Lbent : Stmt := (topD 12)
abbrev N_Lbent : List Str := ["_law_script", "_law_town", "_law_thing", "_law_some", "_law_at"]
theorem sc_Lbent : FnScope N_Lbent ["_law_script", "_law_town", "_law_thing"] (defScope st_Lbent) := ⟨rfl, rfl, rfl, by decide +kernel, rfl, by decide +kernel, by decide +kernel⟩
abbrev st_Lsame : Stmt := (topD 9)
abbrev N_Lsame : List Str := ["_law_got", "_law_due", "_law_one", "_law_other"]
theorem sc_Lsame : FnScope N_Lsame ["_law_got", "_law_due"] (defScope st_Lsame) := ⟨rfl, rfl, rfl, by decide +kernel, rfl, by decide +kernel, by decide +kernel⟩
abbrev st_Lis_whole : Stmt := (topD 15)
abbrev N_Lis_whole : List Str := ["_law_thing", "_law_low", "_law_high"]
theorem sc_Lis_whole : FnScope N_Lis_whole ["_law_thing", "_law_low", "_law_high"] (defScope st_Lis_whole) := ⟨rfl, rfl, rfl, by decide +kernel, rfl, by decide +kernel, by decide +kernel⟩
abbrev st_Lis_book : Stmt := (topD 16)
abbrev N_Lis_book : List Str := ["_law_thing", "_law_words", "_law_table", "_law_word", "_law_width", "_law_rows", "_law_sign", "_law_row", "_law_one"]
theorem sc_Lis_book : FnScope N_Lis_book ["_law_thing"] (defScope st_Lis_book) := ⟨rfl, rfl, rfl, by decide +kernel, rfl, by decide +kernel, by decide +kernel⟩
abbrev st_is_name : Stmt := (topD 3)
abbrev N_is_name : List Str := ["thing", "sign"]
theorem sc_is_name : FnScope N_is_name ["thing"] (defScope st_is_name) := ⟨rfl, rfl, rfl, by decide +kernel, rfl, by decide +kernel, by decide +kernel⟩
abbrev st_is_whole : Stmt := (topD 2)
abbrev N_is_whole : List Str := ["thing"]
theorem sc_is_whole : FnScope N_is_whole ["thing"] (defScope st_is_whole) := ⟨rfl, rfl, rfl, by decide +kernel, rfl, by decide +kernel, by decide +kernel⟩
abbrev st_is_value : Stmt := (topD 4)
abbrev N_is_value : List Str := ["thing"]
theorem sc_is_value : FnScope N_is_value ["thing"] (defScope st_is_value) := ⟨rfl, rfl, rfl, by decide +kernel, rfl, by decide +kernel, by decide +kernel⟩
abbrev st_is_row : Stmt := (topD 5)
abbrev N_is_row : List Str := ["thing", "width", "one"]
theorem sc_is_row : FnScope N_is_row ["thing", "width"] (defScope st_is_row) := ⟨rfl, rfl, rfl, by decide +kernel, rfl, by decide +kernel, by decide +kernel⟩
abbrev st_are_rising : Stmt := (topD 6)
abbrev N_are_rising : List Str := ["row", "one", "other"]
theorem sc_are_rising : FnScope N_are_rising ["row"] (defScope st_are_rising) := ⟨rfl, rfl, rfl, by decide +kernel, rfl, by decide +kernel, by decide +kernel⟩
abbrev st_is_book : Stmt := (topD 7)
abbrev N_is_book : List Str := ["thing", "one", "word", "width", "rows", "row"]
theorem sc_is_book : FnScope N_is_book ["thing"] (defScope st_is_book) := ⟨rfl, rfl, rfl, by decide +kernel, rfl, by decide +kernel, by decide +kernel⟩
abbrev st_law : Stmt := (topD 17)
abbrev N_law : List Str := ["_law_script", "_law_town", "_law_k", "_law_book", "_law_word", "_law_width", "_law_rows", "_law_things", "_law_each_a", "_law_table", "_law_each_b", "_law_j", "_law_thing"]
theorem sc_law : FnScope N_law ["_law_script"] (defScope st_law) := ⟨rfl, rfl, rfl, by decide +kernel, rfl, by decide +kernel, by decide +kernel⟩
def b_Ldraw (cs : Cs) : SS := (sSeq (sIf (ePT (pNot (pTru (pAt (pVar 1))))) (sExpr (eMut "list" (oRef (eVar 1)) mAppend (aCons (eCallP dMax (aCons (eOpP dAdd (eFrz (eComp (iSeq (eVar 0)) (gVar 3) tYesD (eCallP dAbs (aCons (eVar 3) aNil)) [3])) (eFrz (eLst (aCons (eCst (.int 0)) aNil)))) aNil)) aNil))) sNil)
    (sSeq (sExpr (eMut "list" (oRef (eVar 1)) mAppend (aCons (eCst (.int 0)) aNil)))
    (sSeq (sSet 4 (ePure (pCall dLen (pCons (pAt (pVar 1)) pNil))))
    (sSeq (sSet 3 (eIf (ePT (pTru (pVar 0))) (eOpP dIdx (eVar 0) (eOpP dMod (eVar 4) (eCallP dLen (aCons (eVar 0) aNil)))) (eCst (.int 0))))
    (sSeq (sSet 5 (ePure (pOp dMod (pOp dIdx (pAt (pVar 1)) (pCst (.int 0))) (pCst (.int 65536)))))
    (sSeq (sAsg (ePure (pOp dDiv (pOp dIdx (pAt (pVar 1)) (pCst (.int 0))) (pCst (.int 65536)))) (gSub (oRef (eVar 1)) mSetL (eCst (.int 0))))
    (sSeq (sSet 6 (eOpP dMod (eOpP dAdd (eOpP dAdd (eVar 3) (eOpP dMul (eCst (.int 40503)) (eVar 5))) (eOpP dMul (eCst (.int 104729)) (eVar 4))) (eCst (.int 4294967291))))
    (sSeq (sSet 6 (eOpP dMod (eOpP dMul (eOpP dMod (eOpP dMul (eVar 6) (eVar 6)) (eCst (.int 4294967279))) (eCst (.int 48271))) (eCst (.int 4294967291))))
    (sSeq (sSet 7 (eOpP dMod (eOpP dMul (eOpP dMod (eOpP dMul (eVar 6) (eVar 6)) (eCst (.int 4294967279))) (eCst (.int 69621))) (eCst (.int 4294967291))))
    (sRet (eOpP dMod (eOpP dAdd (eOpP dMul (eOpP dDiv (eVar 6) (eCst (.int 64))) (eCst (.int 67108864))) (eOpP dDiv (eVar 7) (eCst (.int 64)))) (eVar 2))))))))))))
def f_Ldraw (cs : Cs) : FS := semOf N_Ldraw.length (b_Ldraw cs)
def b_Lpick (cs : Cs) : SS := (sRet (eOpP dIdx (eVar 2) (eCall (f_Ldraw cs) (aCons (eVar 0) (aCons (eVar 1) (aCons (eCallP dLen (aCons (eVar 2) aNil)) aNil))))))
def f_Lpick (cs : Cs) : FS := semOf N_Lpick.length (b_Lpick cs)
def b_Ldrawn_rows (cs : Cs) : SS := (sSeq (sSet 5 (eFrz (eLst aNil)))
    (sSeq (sFor (iRange (aCons (eCall (f_Ldraw cs) (aCons (eVar 0) (aCons (eVar 1) (aCons (eOpP dAdd (eVar 3) (eCst (.int 1))) aNil)))) aNil)) (gVar 6) (sSeq (sSet 7 (eCallP dTupOf (aCons (eFrz (eComp (iRange (aCons (eVar 2) aNil)) (gVar 8) tYesD (eCall (f_Ldraw cs) (aCons (eVar 0) (aCons (eVar 1) (aCons (eVar 4) aNil)))) [8])) aNil)))
    (sSet 5 (eOpP dAdd (eVar 5) (eOpP dMul (eFrz (eLst (aCons (eVar 7) aNil))) (eCallP dInt1 (aCons (eOpP (dIn true) (eVar 7) (eVar 5)) aNil)))))))
    (sRet (eCallP dTupOf (aCons (eCallP dSorted (aCons (eVar 5) aNil)) aNil)))))
def f_Ldrawn_rows (cs : Cs) : FS := semOf N_Ldrawn_rows.length (b_Ldrawn_rows cs)
def b_Ldrawn_book (cs : Cs) : SS := (sSeq (sOwn 4 (eLst aNil))
    (sSeq (sFor (iSeq (eTup (aCons (eCst (.str "p")) (aCons (eCst (.str "q")) (aCons (eCst (.str "r")) (aCons (eCst (.str "s")) aNil)))))) (gVar 5) (sSeq (sSet 6 (eCall (f_Lpick cs) (aCons (eVar 0) (aCons (eVar 1) (aCons (eFrz (eLst (aCons (eCst (.int 1)) (aCons (eCst (.int 2)) (aCons (eCst (.int 2)) (aCons (eCst (.int 2)) (aCons (eCst (.int 3)) aNil))))))) aNil)))))
    (sExpr (eMut "list" (oSlot 4) mAppend (aCons (eTup (aCons (eVar 5) (aCons (eVar 6) (aCons (eCall (f_Ldrawn_rows cs) (aCons (eVar 0) (aCons (eVar 1) (aCons (eVar 6) (aCons (eVar 2) (aCons (eVar 3) aNil)))))) aNil)))) aNil)))))
    (sRet (eCallP dTupOf (aCons (eSlE (eVar 4) (oPt (eCall (f_Ldraw cs) (aCons (eVar 0) (aCons (eVar 1) (aCons (eCst (.int 2)) aNil))))) oNo) aNil)))))
def f_Ldrawn_book (cs : Cs) : FS := semOf N_Ldrawn_book.length (b_Ldrawn_book cs)
def b_Lbent (cs : Cs) (rec : FS) : SS := (sSeq (sIf (tOrE (ePT (pNot (pTru (pIs "tuple" (pVar 2))))) (tOrE (ePT (pNot (pTru (pVar 2)))) (tOf (eOpP dEq (eCall (f_Ldraw cs) (aCons (eVar 0) (aCons (eVar 1) (aCons (eCst (.int 4)) aNil)))) (eCst (.int 0)))))) (sSeq (sSet 3 (eFrz (eLst (aCons (eCst (.non)) (aCons (eCst (.bl true)) (aCons (eCst (.bl false)) (aCons (eCst (.int 0)) (aCons (eCst (.int 1)) (aCons (ePure (pUn dNeg (pCst (.int 1)))) (aCons (eCst (.int 9999)) (aCons (eCst (.int 10000)) (aCons (eCst (.str "p")) (aCons (eCst (.str "a")) (aCons (eCst (.str "")) (aCons (eCst (.str "A")) (aCons (eTup aNil) (aCons (eFrz (eLst aNil)) (aCons (eTup (aCons (eCst (.int 1)) aNil)) (aCons (eTup (aCons (eCst (.str "a")) (aCons (eCst (.str "b")) aNil))) (aCons (eTup (aCons (eCst (.str "p")) (aCons (eCst (.int 1)) (aCons (eTup aNil) aNil)))) aNil))))))))))))))))))))
    (sSeq (sIf (ePT (pTru (pIs "tuple" (pVar 2)))) (sSet 3 (eOpP dAdd (eVar 3) (eFrz (eLst (aCons (eCallP dLstOf (aCons (eVar 2) aNil)) (aCons (eSl (eVar 2) pNoP (pPt (pUn dNeg (pCst (.int 1))))) (aCons (eOpP dAdd (eVar 2) (eSl (eVar 2) (pPt (pUn dNeg (pCst (.int 1)))) pNoP)) (aCons (eSl (eVar 2) (pPt (pCst (.int 1))) pNoP) (aCons (eRev (eVar 2)) (aCons (eOpP dAdd (eVar 2) (eTup (aCons (eCst (.non)) aNil))) aNil)))))))))) sNil)
    (sSeq (sIf (ePT (pTru (pIs "int" (pVar 2)))) (sSet 3 (eOpP dAdd (eVar 3) (eOpP dMul (eFrz (eLst (aCons (eOpP dAdd (eVar 2) (eCst (.int 1))) (aCons (eOpP dSub (eVar 2) (eCst (.int 1))) (aCons (eNotT (eVar 2)) (aCons (eTup (aCons (eVar 2) aNil)) (aCons (eCallP dStr1 (aCons (eVar 2) aNil)) aNil))))))) (eCst (.int 2))))) sNil)
    (sRet (eCall (f_Lpick cs) (aCons (eVar 0) (aCons (eVar 1) (aCons (eVar 3) aNil)))))))) sNil)
    (sSeq (sSet 4 (eCall (f_Ldraw cs) (aCons (eVar 0) (aCons (eVar 1) (aCons (eCallP dLen (aCons (eVar 2) aNil)) aNil)))))
    (sRet (eOpP dAdd (eOpP dAdd (eSl (eVar 2) pNoP (pPt (pVar 4))) (eTup (aCons (eCall (rec) (aCons (eVar 0) (aCons (eVar 1) (aCons (eOpP dIdx (eVar 2) (eVar 4)) aNil)))) aNil))) (eSl (eVar 2) (pPt (pOp dAdd (pVar 4) (pCst (.int 1)))) pNoP)))))
def fn_Lbent (cs : Cs) : Nat → FS
  | 0 => semOf N_Lbent.length sStuck
  | n + 1 => semOf N_Lbent.length (b_Lbent cs (fn_Lbent cs n))
def f_Lbent (cs : Cs) : FS := fn_Lbent cs 6
def b_Lsame (cs : Cs) (rec : FS) : SS := (sSeq (sIf (ePT (pB (pOp dIsN (pVar 1) (pCst (.non))))) (sRet (eOpP dIsN (eVar 0) (eCst (.non)))) sNil)
    (sSeq (sIf (ePT (pTru (pIs "bool" (pVar 1)))) (sRet (eAndV (ePure (pIs "bool" (pVar 0))) (eOpP dEq (eVar 0) (eVar 1)))) sNil)
    (sSeq (sIf (ePT (pTru (pIs "tuple" (pVar 1)))) (sSeq (sIf (ePT (pOr (pNot (pTru (pIs "tuple" (pVar 0)))) (pB (pOp dNe (pCall dLen (pCons (pVar 0) pNil)) (pCall dLen (pCons (pVar 1) pNil)))))) (sRet (eCst (.bl false))) sNil)
    (sRet (eCallP dAll (aCons (eFrz (eComp (iZipD (aCons (eVar 0) (aCons (eVar 1) aNil))) (gSeqD 2 (ggCons (gVar 2) (ggCons (gVar 3) ggNil))) tYesD (eCall (rec) (aCons (eVar 2) (aCons (eVar 3) aNil))) [2, 3])) aNil)))) sNil)
    (sSeq (sIf (ePT (pTru (pIs "str" (pVar 1)))) (sRet (eAndV (ePure (pIs "str" (pVar 0))) (eOpP dEq (eVar 0) (eVar 1)))) sNil)
    (sRet (eAndV (ePure (pIs "int" (pVar 0))) (eAndV (eNotT (ePure (pIs "bool" (pVar 0)))) (eOpP dEq (eVar 0) (eVar 1)))))))))
def fn_Lsame (cs : Cs) : Nat → FS
  | 0 => semOf N_Lsame.length sStuck
  | n + 1 => semOf N_Lsame.length (b_Lsame cs (fn_Lsame cs n))
def f_Lsame (cs : Cs) : FS := fn_Lsame cs 6
def b_Lis_whole (cs : Cs) : SS := (sRet (eAndV (ePure (pIs "int" (pVar 0))) (eAndV (eNotT (ePure (pIs "bool" (pVar 0)))) (eChain (fun x y ε S => R.opt (dLe x y) ε S) (fun x y ε S => R.opt (dLe x y) ε S) (eVar 1) (eVar 0) (eVar 2)))))
def f_Lis_whole (cs : Cs) : FS := semOf N_Lis_whole.length (b_Lis_whole cs)
def b_Lis_book (cs : Cs) : SS := (sSeq (sIf (ePT (pNot (pTru (pIs "tuple" (pVar 0))))) (sRet (eCst (.bl false))) sNil)
    (sSeq (sOwn 1 (eLst aNil))
    (sSeq (sFor (iSeq (eVar 0)) (gVar 2) (sSeq (sIf (ePT (pOr (pNot (pTru (pIs "tuple" (pVar 2)))) (pB (pOp dNe (pCall dLen (pCons (pVar 2) pNil)) (pCst (.int 3)))))) (sRet (eCst (.bl false))) sNil)
    (sSeq (sAsg (eVar 2) (gSeqD 3 (ggCons (gVar 3) (ggCons (gVar 4) (ggCons (gVar 5) ggNil)))))
    (sSeq (sIf (tOrE (ePT (pNot (pTru (pIs "str" (pVar 3))))) (tNotE (tOf (eChain (fun x y ε S => R.opt (dLt x y) ε S) (fun x y ε S => R.opt (dLt x y) ε S) (eCst (.int 0)) (eCallP dLen (aCons (eVar 3) aNil)) (eCst (.int 7)))))) (sRet (eCst (.bl false))) sNil)
    (sSeq (sIf (tTruE (eFrz (eComp (iSeq (eVar 3)) (gVar 6) (tNotE (tOf (eChain (fun x y ε S => R.opt (dLe x y) ε S) (fun x y ε S => R.opt (dLe x y) ε S) (eCst (.str "a")) (eVar 6) (eCst (.str "z"))))) (eVar 6) [6]))) (sRet (eCst (.bl false))) sNil)
    (sSeq (sIf (tOrE (tNotE (tTruE (eCall (f_Lis_whole cs) (aCons (eVar 4) (aCons (eCst (.int 1)) (aCons (eCst (.int 5)) aNil)))))) (ePT (pNot (pTru (pIs "tuple" (pVar 5)))))) (sRet (eCst (.bl false))) sNil)
    (sSeq (sFor (iSeq (eVar 5)) (gVar 7) (sSeq (sIf (ePT (pOr (pNot (pTru (pIs "tuple" (pVar 7)))) (pB (pOp dNe (pCall dLen (pCons (pVar 7) pNil)) (pVar 4))))) (sRet (eCst (.bl false))) sNil)
    (sIf (tTruE (eFrz (eComp (iSeq (eVar 7)) (gVar 8) (tNotE (tTruE (eCall (f_Lis_whole cs) (aCons (eVar 8) (aCons (ePure (pUn dNeg (pCst (.int 9999)))) (aCons (eCst (.int 9999)) aNil)))))) (eVar 8) [8]))) (sRet (eCst (.bl false))) sNil)))
    (sSeq (sIf (tOf (eOpP dNe (eCallP dLstOf (aCons (eVar 5) aNil)) (eSortSetU (eVar 5)))) (sRet (eCst (.bl false))) sNil)
    (sExpr (eMut "list" (oSlot 1) mAppend (aCons (eVar 3) aNil)))))))))))
    (sRet (eOpP dEq (eVar 1) (eSortSetU (eVar 1)))))))
def f_Lis_book (cs : Cs) : FS := semOf N_Lis_book.length (b_Lis_book cs)
def b_is_name (cs : Cs) : SS := (sRet (eAndV (ePure (pIs "str" (pVar 0))) (eAndV (eChain (fun x y ε S => R.opt (dLe x y) ε S) (fun x y ε S => R.opt (dLe x y) ε S) (eCst (.int 1)) (eCallP dLen (aCons (eVar 0) aNil)) (eCst (.int 6))) (eCallP dAll (aCons (eFrz (eComp (iSeq (eVar 0)) (gVar 1) tYesD (eChain (fun x y ε S => R.opt (dLe x y) ε S) (fun x y ε S => R.opt (dLe x y) ε S) (eCst (.str "a")) (eVar 1) (eCst (.str "z"))) [1])) aNil)))))
def f_is_name (cs : Cs) : FS := semOf N_is_name.length (b_is_name cs)
def b_is_whole (cs : Cs) : SS := (sRet (eAndV (ePure (pIs "int" (pVar 0))) (eNotT (ePure (pIs "bool" (pVar 0))))))
def f_is_whole (cs : Cs) : FS := semOf N_is_whole.length (b_is_whole cs)
def b_is_value (cs : Cs) : SS := (sRet (eAndV (eCall (f_is_whole cs) (aCons (eVar 0) aNil)) (eChain (fun x y ε S => R.opt (dLe x y) ε S) (fun x y ε S => R.opt (dLe x y) ε S) (ePure (pUn dNeg (pCst (.int 9999)))) (eVar 0) (eCst (.int 9999)))))
def f_is_value (cs : Cs) : FS := semOf N_is_value.length (b_is_value cs)
def b_is_row (cs : Cs) : SS := (sRet (eAndV (ePure (pIs "tuple" (pVar 0))) (eAndV (eOpP dEq (eCallP dLen (aCons (eVar 0) aNil)) (eVar 1)) (eCallP dAll (aCons (eFrz (eComp (iSeq (eVar 0)) (gVar 2) tYesD (eCall (f_is_value cs) (aCons (eVar 2) aNil)) [2])) aNil)))))
def f_is_row (cs : Cs) : FS := semOf N_is_row.length (b_is_row cs)
def b_are_rising (cs : Cs) : SS := (sRet (eCallP dAll (aCons (eFrz (eComp (iZipD (aCons (eVar 0) (aCons (eSl (eVar 0) (pPt (pCst (.int 1))) pNoP) aNil))) (gSeqD 2 (ggCons (gVar 1) (ggCons (gVar 2) ggNil))) tYesD (eOpP dLtT (eVar 1) (eVar 2)) [1, 2])) aNil)))
def f_are_rising (cs : Cs) : FS := semOf N_are_rising.length (b_are_rising cs)
def b_is_book (cs : Cs) : SS := (sSeq (sIf (tOrE (ePT (pNot (pTru (pIs "tuple" (pVar 0))))) (tNotE (tTruE (eCallP dAll (aCons (eFrz (eComp (iSeq (eVar 0)) (gVar 1) tYesD (eAndV (ePure (pIs "tuple" (pVar 1))) (eOpP dEq (eCallP dLen (aCons (eVar 1) aNil)) (eCst (.int 3)))) [1])) aNil))))) (sRet (eCst (.bl false))) sNil)
    (sSeq (sFor (iSeq (eVar 0)) (gSeqD 3 (ggCons (gVar 2) (ggCons (gVar 3) (ggCons (gVar 4) ggNil)))) (sSeq (sIf (tOrE (tNotE (tTruE (eCall (f_is_name cs) (aCons (eVar 2) aNil)))) (tOrE (tNotE (tTruE (eCall (f_is_whole cs) (aCons (eVar 3) aNil)))) (tOrE (tNotE (tOf (eChain (fun x y ε S => R.opt (dLe x y) ε S) (fun x y ε S => R.opt (dLe x y) ε S) (eCst (.int 1)) (eVar 3) (eCst (.int 5))))) (ePT (pNot (pTru (pIs "tuple" (pVar 4)))))))) (sRet (eCst (.bl false))) sNil)
    (sIf (tOrE (tNotE (tTruE (eCallP dAll (aCons (eFrz (eComp (iSeq (eVar 4)) (gVar 5) tYesD (eCall (f_is_row cs) (aCons (eVar 5) (aCons (eVar 3) aNil))) [5])) aNil)))) (tNotE (tTruE (eCall (f_are_rising cs) (aCons (eVar 4) aNil))))) (sRet (eCst (.bl false))) sNil)))
    (sRet (eCall (f_are_rising cs) (aCons (eFrz (eComp (iSeq (eVar 0)) (gVar 1) tYesD (eOpP dIdx (eVar 1) (eCst (.int 0))) [1])) aNil)))))
def f_is_book (cs : Cs) : FS := semOf N_is_book.length (b_is_book cs)
def b_law (cs : Cs) : SS := (sSeq (sSet 1 (eNew (eLst aNil)))
    (sSeq (sFor (iRange (aCons (eCst (.int 6)) aNil)) (gVar 2) (sSeq (sSet 3 (eCall (f_Ldrawn_book cs) (aCons (eVar 0) (aCons (eVar 1) (aCons (eCst (.int 5)) (aCons (eCst (.int 4)) aNil))))))
    (sSeq (sAsg (eOpP dIdx (eVar 3) (eCst (.int 0))) (gSeqD 3 (ggCons (gVar 4) (ggCons (gVar 5) (ggCons (gVar 6) ggNil)))))
    (sSeq (sOwn 7 (eLst (aCons (eVar 3) (aCons (eRev (eVar 3)) (aCons (eOpP dAdd (eVar 3) (eSl (eVar 3) pNoP (pPt (pCst (.int 1))))) (aCons (eCallP dLstOf (aCons (eVar 3) aNil)) (aCons (eCst (.non)) (aCons (eTup aNil) (aCons (eOpP dIdx (eVar 3) (eCst (.int 0))) aNil)))))))))
    (sSeq (sOwn 7 (eAddF (eVar 7) (eFrz (eLst (aCons (eSl (eVar 3) pNoP (pPt (pCst (.int 1)))) (aCons (eTup (aCons (eTup (aCons (eCst (.str "z")) (aCons (eCst (.int 5)) (aCons (eTup aNil) aNil)))) aNil)) (aCons (eTup (aCons (eTup (aCons (eCst (.str "z")) (aCons (eCst (.int 6)) (aCons (eTup aNil) aNil)))) aNil)) aNil)))))))
    (sSeq (sSet 8 (eFrz (eLst (aCons (eTup (aCons (eCst (.str "zz")) (aCons (eCst (.int 1)) (aCons (eTup (aCons (eTup (aCons (eCst (.int 9999)) aNil)) (aCons (eTup (aCons (ePure (pUn dNeg (pCst (.int 9999)))) aNil)) aNil))) aNil)))) (aCons (eTup (aCons (eCst (.str "zz")) (aCons (eCst (.int 1)) (aCons (eTup (aCons (eTup (aCons (ePure (pUn dNeg (pCst (.int 9999)))) aNil)) (aCons (eTup (aCons (eCst (.int 9999)) aNil)) aNil))) aNil)))) aNil)))))
    (sSeq (sSet 8 (eOpP dAdd (eVar 8) (eFrz (eLst (aCons (eTup (aCons (eCst (.str "zz")) (aCons (eCst (.int 1)) (aCons (eTup (aCons (eTup (aCons (eCst (.int 10000)) aNil)) aNil)) aNil)))) (aCons (eTup (aCons (eCst (.str "zz")) (aCons (eCst (.int 1)) (aCons (eTup (aCons (eTup (aCons (eCst (.bl true)) aNil)) aNil)) aNil)))) aNil))))))
    (sSeq (sFor (iSeq (eVar 8)) (gVar 9) (sExpr (eMut "list" (oSlot 7) mAppend (aCons (eOpP dAdd (eVar 3) (eTup (aCons (eVar 9) aNil))) aNil))))
    (sSeq (sSet 10 (eFrz (eLst (aCons (eTup (aCons (eCst (.str "zz")) (aCons (eCst (.int 1)) (aCons (eTup (aCons (eTup (aCons (eCst (.int 0)) aNil)) (aCons (eTup (aCons (eCst (.int 0)) aNil)) aNil))) aNil)))) (aCons (eTup (aCons (eCst (.str "zzzzzzz")) (aCons (eCst (.int 1)) (aCons (eTup aNil) aNil)))) (aCons (eTup (aCons (eCst (.str "zzzzzz")) (aCons (eCst (.int 1)) (aCons (eTup aNil) aNil)))) aNil))))))
    (sSeq (sSet 10 (eOpP dAdd (eVar 10) (eFrz (eLst (aCons (eTup (aCons (eCst (.str "Z")) (aCons (eCst (.int 1)) (aCons (eTup aNil) aNil)))) (aCons (eTup (aCons (eCst (.str "zz")) (aCons (eCst (.int 2)) (aCons (eTup (aCons (eTup (aCons (eCst (.int 1)) aNil)) aNil)) aNil)))) (aCons (eTup (aCons (eCst (.str "zz")) (aCons (eCst (.int 0)) (aCons (eTup (aCons (eTup aNil) aNil)) aNil)))) aNil)))))))
    (sSeq (sFor (iSeq (eVar 10)) (gVar 9) (sExpr (eMut "list" (oSlot 7) mAppend (aCons (eOpP dAdd (eVar 3) (eTup (aCons (eVar 9) aNil))) aNil))))
    (sSeq (sOwn 7 (eAddF (eVar 7) (eFrz (eLst (aCons (eOpP dAdd (eVar 3) (eTup (aCons (eTup (aCons (eCst (.str "zz")) (aCons (eCst (.bl true)) (aCons (eTup aNil) aNil)))) aNil))) (aCons (eOpP dAdd (eVar 3) (eTup (aCons (eTup (aCons (eCst (.str "zz")) (aCons (eCst (.int 1)) (aCons (eFrz (eLst (aCons (eTup (aCons (eCst (.int 1)) aNil)) aNil))) aNil)))) aNil))) aNil))))))
    (sSeq (sOwn 7 (eAddF (eVar 7) (eFrz (eLst (aCons (eOpP dAdd (eVar 3) (eTup (aCons (eTup (aCons (eCst (.str "zz")) (aCons (eCst (.int 1)) (aCons (eTup (aCons (eFrz (eLst (aCons (eCst (.int 1)) aNil))) aNil)) aNil)))) aNil))) (aCons (eOpP dAdd (eVar 3) (eTup (aCons (eTup (aCons (eCst (.str "")) (aCons (eCst (.int 1)) (aCons (eTup aNil) aNil)))) aNil))) aNil))))))
    (sSeq (sOwn 7 (eAddF (eVar 7) (eFrz (eLst (aCons (eTup (aCons (eTup (aCons (eVar 4) (aCons (eVar 5) (aCons (eRev (eVar 6)) aNil)))) aNil)) (aCons (eTup (aCons (eTup (aCons (eVar 4) (aCons (eVar 5) (aCons (eOpP dAdd (eVar 6) (eSl (eVar 6) pNoP (pPt (pCst (.int 1))))) aNil)))) aNil)) aNil))))))
    (sSeq (sOwn 7 (eAddF (eVar 7) (eFrz (eComp (iRange (aCons (eCst (.int 8)) aNil)) (gVar 11) tYesD (eCall (f_Lbent cs) (aCons (eVar 0) (aCons (eVar 1) (aCons (eVar 3) aNil)))) [11]))))
    (sIf (tNotE (tTruE (eCallP dAll (aCons (eFrz (eComp (iSeq (eVar 7)) (gVar 12) tYesD (eCall (f_Lsame cs) (aCons (eCall (f_is_book cs) (aCons (eVar 12) aNil)) (aCons (eCall (f_Lis_book cs) (aCons (eVar 12) aNil)) aNil))) [12])) aNil)))) (sRet (eCst (.bl false))) sNil))))))))))))))))
    (sRet (eCst (.bl true)))))
def f_law (cs : Cs) : FS := semOf N_law.length (b_law cs)
structure Tx (K : PySem.W.Frag) (mg : Str → Option Value) (cs : Cs) where
  n_abs : mg "abs" = none
  n_all : mg "all" = none
  n_bool : mg "bool" = none
  n_int : mg "int" = none
  n_isinstance : mg "isinstance" = none
  n_len : mg "len" = none
  n_list : mg "list" = none
  n_max : mg "max" = none
  n_range : mg "range" = none
  n_set : mg "set" = none
  n_sorted : mg "sorted" = none
  n_str : mg "str" = none
  n_tuple : mg "tuple" = none
  n_zip : mg "zip" = none
  v_MOST : ∃ t, mg "MOST" = some (Value.int 9999 t)
  a_Ldraw : Addr
  d_Ldraw : FuncData
  F_Ldraw : Fun K "_law_draw" "_law_draw" st_Ldraw a_Ldraw d_Ldraw
  B_Ldraw : Binds K d_Ldraw ["_law_script", "_law_town", "_law_many"] []
  g_Ldraw : mg "_law_draw" = some (.ref a_Ldraw)
  k_Ldraw : PySem.W.keepIn K (.ref a_Ldraw) = true
  a_Lpick : Addr
  d_Lpick : FuncData
  F_Lpick : Fun K "_law_pick" "_law_pick" st_Lpick a_Lpick d_Lpick
  B_Lpick : Binds K d_Lpick ["_law_script", "_law_town", "_law_some"] []
  g_Lpick : mg "_law_pick" = some (.ref a_Lpick)
  k_Lpick : PySem.W.keepIn K (.ref a_Lpick) = true
  a_Ldrawn_rows : Addr
  d_Ldrawn_rows : FuncData
  F_Ldrawn_rows : Fun K "_law_drawn_rows" "_law_drawn_rows" st_Ldrawn_rows a_Ldrawn_rows d_Ldrawn_rows
  B_Ldrawn_rows : Binds K d_Ldrawn_rows ["_law_script", "_law_town", "_law_width", "_law_most", "_law_far"] []
  g_Ldrawn_rows : mg "_law_drawn_rows" = some (.ref a_Ldrawn_rows)
  k_Ldrawn_rows : PySem.W.keepIn K (.ref a_Ldrawn_rows) = true
  a_Ldrawn_book : Addr
  d_Ldrawn_book : FuncData
  F_Ldrawn_book : Fun K "_law_drawn_book" "_law_drawn_book" st_Ldrawn_book a_Ldrawn_book d_Ldrawn_book
  B_Ldrawn_book : Binds K d_Ldrawn_book ["_law_script", "_law_town", "_law_most", "_law_far"] []
  g_Ldrawn_book : mg "_law_drawn_book" = some (.ref a_Ldrawn_book)
  k_Ldrawn_book : PySem.W.keepIn K (.ref a_Ldrawn_book) = true
  a_Lbent : Addr
  d_Lbent : FuncData
  F_Lbent : Fun K "_law_bent" "_law_bent" st_Lbent a_Lbent d_Lbent
  B_Lbent : Binds K d_Lbent ["_law_script", "_law_town", "_law_thing"] []
  g_Lbent : mg "_law_bent" = some (.ref a_Lbent)
  k_Lbent : PySem.W.keepIn K (.ref a_Lbent) = true
  a_Lsame : Addr
  d_Lsame : FuncData
  F_Lsame : Fun K "_law_same" "_law_same" st_Lsame a_Lsame d_Lsame
  B_Lsame : Binds K d_Lsame ["_law_got", "_law_due"] []
  g_Lsame : mg "_law_same" = some (.ref a_Lsame)
  k_Lsame : PySem.W.keepIn K (.ref a_Lsame) = true
  a_Lis_whole : Addr
  d_Lis_whole : FuncData
  F_Lis_whole : Fun K "_law_is_whole" "_law_is_whole" st_Lis_whole a_Lis_whole d_Lis_whole
  B_Lis_whole : Binds K d_Lis_whole ["_law_thing", "_law_low", "_law_high"] []
  g_Lis_whole : mg "_law_is_whole" = some (.ref a_Lis_whole)
  k_Lis_whole : PySem.W.keepIn K (.ref a_Lis_whole) = true
  a_Lis_book : Addr
  d_Lis_book : FuncData
  F_Lis_book : Fun K "_law_is_book" "_law_is_book" st_Lis_book a_Lis_book d_Lis_book
  B_Lis_book : Binds K d_Lis_book ["_law_thing"] []
  g_Lis_book : mg "_law_is_book" = some (.ref a_Lis_book)
  k_Lis_book : PySem.W.keepIn K (.ref a_Lis_book) = true
  a_is_name : Addr
  d_is_name : FuncData
  F_is_name : Fun K "is_name" "is_name" st_is_name a_is_name d_is_name
  B_is_name : Binds K d_is_name ["thing"] []
  g_is_name : mg "is_name" = some (.ref a_is_name)
  k_is_name : PySem.W.keepIn K (.ref a_is_name) = true
  a_is_whole : Addr
  d_is_whole : FuncData
  F_is_whole : Fun K "is_whole" "is_whole" st_is_whole a_is_whole d_is_whole
  B_is_whole : Binds K d_is_whole ["thing"] []
  g_is_whole : mg "is_whole" = some (.ref a_is_whole)
  k_is_whole : PySem.W.keepIn K (.ref a_is_whole) = true
  a_is_value : Addr
  d_is_value : FuncData
  F_is_value : Fun K "is_value" "is_value" st_is_value a_is_value d_is_value
  B_is_value : Binds K d_is_value ["thing"] []
  g_is_value : mg "is_value" = some (.ref a_is_value)
  k_is_value : PySem.W.keepIn K (.ref a_is_value) = true
  a_is_row : Addr
  d_is_row : FuncData
  F_is_row : Fun K "is_row" "is_row" st_is_row a_is_row d_is_row
  B_is_row : Binds K d_is_row ["thing", "width"] []
  g_is_row : mg "is_row" = some (.ref a_is_row)
  k_is_row : PySem.W.keepIn K (.ref a_is_row) = true
  a_are_rising : Addr
  d_are_rising : FuncData
  F_are_rising : Fun K "are_rising" "are_rising" st_are_rising a_are_rising d_are_rising
  B_are_rising : Binds K d_are_rising ["row"] []
  g_are_rising : mg "are_rising" = some (.ref a_are_rising)
  k_are_rising : PySem.W.keepIn K (.ref a_are_rising) = true
  a_is_book : Addr
  d_is_book : FuncData
  F_is_book : Fun K "is_book" "is_book" st_is_book a_is_book d_is_book
  B_is_book : Binds K d_is_book ["thing"] []
  g_is_book : mg "is_book" = some (.ref a_is_book)
  k_is_book : PySem.W.keepIn K (.ref a_is_book) = true
  a_law : Addr
  d_law : FuncData
  F_law : Fun K "law" "law" st_law a_law d_law
  B_law : Binds K d_law ["_law_script"] []
  g_law : mg "law" = some (.ref a_law)
  k_law : PySem.W.keepIn K (.ref a_law) = true
section
variable {P : Program} {w : World} {K : PySem.W.Frag} {mg : Str → Option Value} {base : Heap} {cs : Cs}
theorem ok_Ldraw (T : Tx K mg cs) : FnOk P w K mg base (L2.CX P w) 1 T.a_Ldraw T.d_Ldraw ["_law_script", "_law_town", "_law_many"] (spOf K excR ["_law_script", "_law_town", "_law_many"].length (f_Ldraw cs)) :=
  fn_ok T.F_Ldraw sc_Ldraw fun cdv A outer s H E W w0 hr tk => by
    have hu64 := hr.units
    have hu1 := Nat.lt_of_le_of_lt (Nat.add_le_add_left (show 1 ≤ 64 by decide) _) hr.units
    have pn := passes_of (X := cxOf (L2.CX P w) P w K mg base N_Ldraw "_law_draw" (defScope st_Ldraw) T.a_Ldraw cdv A outer s H E) rfl
    exact ((dss_cons (ds_if (dt_pure (dpt_not (dpt_tru (dp_at (dp_var 1))))) (dss_one (ds_expr (de_append (do_ref (de_var 1)) (da_cons (de_callB ok_max (cr_max rfl) (by decide +kernel) T.n_max (da_cons (de_op op_addD (OpG.ok ok_add) (de_frz (df_comp (own := [("_law_cell", 3)]) rfl sc_Ldraw.nd (di_seq (de_var 0)) (blkOk_by (N := N_Ldraw) (sc := defScope st_Ldraw) (own := [("_law_cell", 3)]) (by decide +kernel)) (fun _ _ _ _ _ => (dg_name 3 sc_Ldraw.nd)) (fun _ _ _ _ _ => dts_nil) (fun _ _ _ _ _ => (de_callB ok_abs call_abs (by decide +kernel) T.n_abs (da_cons (de_var 3) da_nil))))) (de_frz (df_lst (da_cons de_int da_nil) (aCons_len aNil_len)))) da_nil)) da_nil)))) dss_nil)
    (dss_cons (ds_expr (de_append (do_ref (de_var 1)) (da_cons de_int da_nil)))
    (dss_cons (ds_set 4 sc_Ldraw.nd (de_pure (dp_callB ok_len call_lenD (by decide +kernel) T.n_len (dpa_cons (dp_at (dp_var 1)) dpa_nil))))
    (dss_cons (ds_set 3 sc_Ldraw.nd (de_if (dt_pure (dpt_tru (dp_var 0))) (de_idx hu64 (de_var 0) (de_op op_mod (OpG.ok ok_mod) (de_var 4) (de_callB ok_len call_lenD (by decide +kernel) T.n_len (da_cons (de_var 0) da_nil)))) de_int))
    (dss_cons (ds_set 5 sc_Ldraw.nd (de_pure (dp_op ok_mod op_mod (dp_idx hu64 (dp_at (dp_var 1)) dp_int) dp_int)))
    (dss_cons (ds_asg (de_pure (dp_op ok_div op_fdiv (dp_idx hu64 (dp_at (dp_var 1)) dp_int) dp_int)) (dg_sub ok_setL set_list (do_ref (de_var 1)) de_int))
    (dss_cons (ds_set 6 sc_Ldraw.nd (de_op op_mod (OpG.ok ok_mod) (de_op op_addD (OpG.ok ok_add) (de_op op_addD (OpG.ok ok_add) (de_var 3) (de_op (OpR_or op_mul op_repS) (OpG.ok ok_mul) de_int (de_var 5))) (de_op (OpR_or op_mul op_repS) (OpG.ok ok_mul) de_int (de_var 4))) de_int))
    (dss_cons (ds_set 6 sc_Ldraw.nd (de_op op_mod (OpG.ok ok_mod) (de_op (OpR_or op_mul op_repS) (OpG.ok ok_mul) (de_op op_mod (OpG.ok ok_mod) (de_op (OpR_or op_mul op_repS) (OpG.ok ok_mul) (de_var 6) (de_var 6)) de_int) de_int) de_int))
    (dss_cons (ds_set 7 sc_Ldraw.nd (de_op op_mod (OpG.ok ok_mod) (de_op (OpR_or op_mul op_repS) (OpG.ok ok_mul) (de_op op_mod (OpG.ok ok_mod) (de_op (OpR_or op_mul op_repS) (OpG.ok ok_mul) (de_var 6) (de_var 6)) de_int) de_int) de_int))
    (dss_one (ds_ret (de_op op_mod (OpG.ok ok_mod) (de_op op_addD (OpG.ok ok_add) (de_op (OpR_or op_mul op_repS) (OpG.ok ok_mul) (de_op op_fdiv (OpG.ok ok_div) (de_var 6) de_int) de_int) (de_op op_fdiv (OpG.ok ok_div) (de_var 7) de_int)) (de_var 2))))))))))))))
theorem ok_Lpick (T : Tx K mg cs) : FnOk P w K mg base (L2.CX P w) 2 T.a_Lpick T.d_Lpick ["_law_script", "_law_town", "_law_some"] (spOf K excR ["_law_script", "_law_town", "_law_some"].length (f_Lpick cs)) :=
  fn_ok T.F_Lpick sc_Lpick fun cdv A outer s H E W w0 hr tk => by
    have hu64 := hr.units
    have hu1 := Nat.lt_of_le_of_lt (Nat.add_le_add_left (show 1 ≤ 64 by decide) _) hr.units
    have pn := passes_of (X := cxOf (L2.CX P w) P w K mg base N_Lpick "_law_pick" (defScope st_Lpick) T.a_Lpick cdv A outer s H E) rfl
    exact ((dss_one (ds_ret (de_idx hu64 (de_var 2) (de_call tk (ok_Ldraw T) (hr.mono (by decide)) T.g_Ldraw T.k_Ldraw T.B_Ldraw (da_cons (de_var 0) (da_cons (de_var 1) (da_cons (de_callB ok_len call_lenD (by decide +kernel) T.n_len (da_cons (de_var 2) da_nil)) da_nil))) (aCons_len (aCons_len (aCons_len aNil_len))))))))
theorem ok_Ldrawn_rows (T : Tx K mg cs) : FnOk P w K mg base (L2.CX P w) 2 T.a_Ldrawn_rows T.d_Ldrawn_rows ["_law_script", "_law_town", "_law_width", "_law_most", "_law_far"] (spOf K excR ["_law_script", "_law_town", "_law_width", "_law_most", "_law_far"].length (f_Ldrawn_rows cs)) :=
  fn_ok T.F_Ldrawn_rows sc_Ldrawn_rows fun cdv A outer s H E W w0 hr tk => by
    have hu64 := hr.units
    have hu1 := Nat.lt_of_le_of_lt (Nat.add_le_add_left (show 1 ≤ 64 by decide) _) hr.units
    have pn := passes_of (X := cxOf (L2.CX P w) P w K mg base N_Ldrawn_rows "_law_drawn_rows" (defScope st_Ldrawn_rows) T.a_Ldrawn_rows cdv A outer s H E) rfl
    exact ((dss_cons (ds_set 5 sc_Ldrawn_rows.nd (de_frz (df_lst da_nil aNil_len)))
    (dss_cons (ds_for pn rfl (di_range1 (da_cons (de_call tk (ok_Ldraw T) (hr.mono (by decide)) T.g_Ldraw T.k_Ldraw T.B_Ldraw (da_cons (de_var 0) (da_cons (de_var 1) (da_cons (de_op op_addD (OpG.ok ok_add) (de_var 3) de_int) da_nil))) (aCons_len (aCons_len (aCons_len aNil_len)))) da_nil) T.n_range (aCons_len aNil_len)) (dg_name 6 sc_Ldrawn_rows.nd) (dss_cons (ds_set 7 sc_Ldrawn_rows.nd (de_callTy ok_tupOf call_tuple_of (by decide +kernel) T.n_tuple (da_cons (de_frz (df_comp (own := [("_law_j", 8)]) rfl sc_Ldrawn_rows.nd (di_range1 (da_cons (de_var 2) da_nil) T.n_range (aCons_len aNil_len)) (blkOk_by (N := N_Ldrawn_rows) (sc := defScope st_Ldrawn_rows) (own := [("_law_j", 8)]) (by decide +kernel)) (fun _ _ _ _ _ => (dg_name 8 sc_Ldrawn_rows.nd)) (fun _ _ _ _ _ => dts_nil) (fun _ _ _ _ _ => (de_call takes0 (ok_Ldraw T) (hr.mono (by decide)) T.g_Ldraw T.k_Ldraw T.B_Ldraw (da_cons (de_var 0) (da_cons (de_var 1) (da_cons (de_var 4) da_nil))) (aCons_len (aCons_len (aCons_len aNil_len))))))) da_nil)))
    (dss_one (ds_set 5 sc_Ldrawn_rows.nd (de_op op_addD (OpG.ok ok_add) (de_var 5) (de_op (OpR_or op_mul op_repS) (OpG.ok ok_mul) (de_frz (df_lst (da_cons (de_var 7) da_nil) (aCons_len aNil_len))) (de_callTy ok_int1 call_int1 (by decide +kernel) T.n_int (da_cons (de_cmp (op_notInA hu64) (OpG.ok ok_in) (de_var 7) (de_var 5) (by rfl)) da_nil))))))))
    (dss_one (ds_ret (de_callTy ok_tupOf call_tuple_of (by decide +kernel) T.n_tuple (da_cons (de_callB ok_sorted (call_sortD hu64) (by decide +kernel) T.n_sorted (da_cons (de_var 5) da_nil)) da_nil)))))))
theorem ok_Ldrawn_book (T : Tx K mg cs) : FnOk P w K mg base (L2.CX P w) 3 T.a_Ldrawn_book T.d_Ldrawn_book ["_law_script", "_law_town", "_law_most", "_law_far"] (spOf K excR ["_law_script", "_law_town", "_law_most", "_law_far"].length (f_Ldrawn_book cs)) :=
  fn_ok T.F_Ldrawn_book sc_Ldrawn_book fun cdv A outer s H E W w0 hr tk => by
    have hu64 := hr.units
    have hu1 := Nat.lt_of_le_of_lt (Nat.add_le_add_left (show 1 ≤ 64 by decide) _) hr.units
    have pn := passes_of (X := cxOf (L2.CX P w) P w K mg base N_Ldrawn_book "_law_drawn_book" (defScope st_Ldrawn_book) T.a_Ldrawn_book cdv A outer s H E) rfl
    exact ((dss_cons (ds_own 4 sc_Ldrawn_book.nd (df_lst da_nil aNil_len))
    (dss_cons (ds_for pn rfl (di_seq (de_tup (da_cons de_str (da_cons de_str (da_cons de_str (da_cons de_str da_nil)))) (aCons_len (aCons_len (aCons_len (aCons_len aNil_len)))))) (dg_name 5 sc_Ldrawn_book.nd) (dss_cons (ds_set 6 sc_Ldrawn_book.nd (de_call tk (ok_Lpick T) (hr.mono (by decide)) T.g_Lpick T.k_Lpick T.B_Lpick (da_cons (de_var 0) (da_cons (de_var 1) (da_cons (de_frz (df_lst (da_cons de_int (da_cons de_int (da_cons de_int (da_cons de_int (da_cons de_int da_nil))))) (aCons_len (aCons_len (aCons_len (aCons_len (aCons_len aNil_len))))))) da_nil))) (aCons_len (aCons_len (aCons_len aNil_len)))))
    (dss_one (ds_expr (de_append (do_slot 4) (da_cons (de_tup (da_cons (de_var 5) (da_cons (de_var 6) (da_cons (de_call tk (ok_Ldrawn_rows T) (hr.mono (by decide)) T.g_Ldrawn_rows T.k_Ldrawn_rows T.B_Ldrawn_rows (da_cons (de_var 0) (da_cons (de_var 1) (da_cons (de_var 6) (da_cons (de_var 2) (da_cons (de_var 3) da_nil))))) (aCons_len (aCons_len (aCons_len (aCons_len (aCons_len aNil_len)))))) da_nil))) (aCons_len (aCons_len (aCons_len aNil_len)))) da_nil))))))
    (dss_one (ds_ret (de_callTy ok_tupOf call_tuple_of (by decide +kernel) T.n_tuple (da_cons (de_sliceE (de_var 4) (doe_some (de_call tk (ok_Ldraw T) (hr.mono (by decide)) T.g_Ldraw T.k_Ldraw T.B_Ldraw (da_cons (de_var 0) (da_cons (de_var 1) (da_cons de_int da_nil))) (aCons_len (aCons_len (aCons_len aNil_len))))) doe_none) da_nil)))))))
theorem okn_Lbent (T : Tx K mg cs) : ∀ n, FnOk P w K mg base (L2.CX P w) (3 + n) T.a_Lbent T.d_Lbent ["_law_script", "_law_town", "_law_thing"] (spOf K excR ["_law_script", "_law_town", "_law_thing"].length (fn_Lbent cs n))
  | 0 => fn_ok (k := 2) T.F_Lbent sc_Lbent fun cdv A outer s H E W w0 hr tk => dss_stuck
  | n + 1 => fn_ok (k := 3 + n) T.F_Lbent sc_Lbent fun cdv A outer s H E W w0 hr tk => by
    have ih := okn_Lbent T n
    have hu64 := hr.units
    have hu1 := Nat.lt_of_le_of_lt (Nat.add_le_add_left (show 1 ≤ 64 by decide) _) hr.units
    have pn := passes_of (X := cxOf (L2.CX P w) P w K mg base N_Lbent "_law_bent" (defScope st_Lbent) T.a_Lbent cdv A outer s H E) rfl
    exact ((dss_cons (ds_if (dt_w (dw_or (dt_pure (dpt_not (dpt_tru (dp_isi (T := "tuple") (by decide) (by decide +kernel) T.n_isinstance T.n_tuple (dp_var 2))))) (dw_or (dt_pure (dpt_not (dpt_tru (dp_var 2)))) (dw_or1 (dt_cmp (op_eqD hu64) (OpG.ok ok_eq) (de_call tk (ok_Ldraw T) (hr.mono (by omega)) T.g_Ldraw T.k_Ldraw T.B_Ldraw (da_cons (de_var 0) (da_cons (de_var 1) (da_cons de_int da_nil))) (aCons_len (aCons_len (aCons_len aNil_len)))) de_int (by rfl)))))) (dss_cons (ds_set 3 sc_Lbent.nd (de_frz (df_lst (da_cons de_non (da_cons de_bl (da_cons de_bl (da_cons de_int (da_cons de_int (da_cons (de_pure (dp_neg dp_int)) (da_cons de_int (da_cons de_int (da_cons de_str (da_cons de_str (da_cons de_str (da_cons de_str (da_cons (de_tup da_nil aNil_len) (da_cons (de_frz (df_lst da_nil aNil_len)) (da_cons (de_tup (da_cons de_int da_nil) (aCons_len aNil_len)) (da_cons (de_tup (da_cons de_str (da_cons de_str da_nil)) (aCons_len (aCons_len aNil_len))) (da_cons (de_tup (da_cons de_str (da_cons de_int (da_cons (de_tup da_nil aNil_len) da_nil))) (aCons_len (aCons_len (aCons_len aNil_len)))) da_nil))))))))))))))))) (aCons_len (aCons_len (aCons_len (aCons_len (aCons_len (aCons_len (aCons_len (aCons_len (aCons_len (aCons_len (aCons_len (aCons_len (aCons_len (aCons_len (aCons_len (aCons_len (aCons_len aNil_len))))))))))))))))))))
    (dss_cons (ds_if (dt_pure (dpt_tru (dp_isi (T := "tuple") (by decide) (by decide +kernel) T.n_isinstance T.n_tuple (dp_var 2)))) (dss_one (ds_set 3 sc_Lbent.nd (de_op op_addD (OpG.ok ok_add) (de_var 3) (de_frz (df_lst (da_cons (de_callTy ok_lstOf call_list_of (by decide +kernel) T.n_list (da_cons (de_var 2) da_nil)) (da_cons (de_slice (de_var 2) dpo_none (dpo_some (dp_neg dp_int))) (da_cons (de_op op_addD (OpG.ok ok_add) (de_var 2) (de_slice (de_var 2) (dpo_some (dp_neg dp_int)) dpo_none)) (da_cons (de_slice (de_var 2) (dpo_some dp_int) dpo_none) (da_cons (de_rev (de_var 2)) (da_cons (de_op op_addD (OpG.ok ok_add) (de_var 2) (de_tup (da_cons de_non da_nil) (aCons_len aNil_len))) da_nil)))))) (aCons_len (aCons_len (aCons_len (aCons_len (aCons_len (aCons_len aNil_len))))))))))) dss_nil)
    (dss_cons (ds_if (dt_pure (dpt_tru (dp_isi (T := "int") (by decide) (by decide +kernel) T.n_isinstance T.n_int (dp_var 2)))) (dss_one (ds_set 3 sc_Lbent.nd (de_op op_addD (OpG.ok ok_add) (de_var 3) (de_op (OpR_or op_mul op_repS) (OpG.ok ok_mul) (de_frz (df_lst (da_cons (de_op op_addD (OpG.ok ok_add) (de_var 2) de_int) (da_cons (de_op op_sub (OpG.ok ok_I) (de_var 2) de_int) (da_cons (de_notT (de_var 2)) (da_cons (de_tup (da_cons (de_var 2) da_nil) (aCons_len aNil_len)) (da_cons (de_callTy ok_str1 call_str_int (by decide +kernel) T.n_str (da_cons (de_var 2) da_nil)) da_nil))))) (aCons_len (aCons_len (aCons_len (aCons_len (aCons_len aNil_len))))))) de_int)))) dss_nil)
    (dss_one (ds_ret (de_call tk (ok_Lpick T) (hr.mono (by omega)) T.g_Lpick T.k_Lpick T.B_Lpick (da_cons (de_var 0) (da_cons (de_var 1) (da_cons (de_var 3) da_nil))) (aCons_len (aCons_len (aCons_len aNil_len))))))))) dss_nil)
    (dss_cons (ds_set 4 sc_Lbent.nd (de_call tk (ok_Ldraw T) (hr.mono (by omega)) T.g_Ldraw T.k_Ldraw T.B_Ldraw (da_cons (de_var 0) (da_cons (de_var 1) (da_cons (de_callB ok_len call_lenD (by decide +kernel) T.n_len (da_cons (de_var 2) da_nil)) da_nil))) (aCons_len (aCons_len (aCons_len aNil_len)))))
    (dss_one (ds_ret (de_op op_addD (OpG.ok ok_add) (de_op op_addD (OpG.ok ok_add) (de_slice (de_var 2) dpo_none (dpo_some (dp_var 4))) (de_tup (da_cons (de_call tk ih (hr.mono (by omega)) T.g_Lbent T.k_Lbent T.B_Lbent (da_cons (de_var 0) (da_cons (de_var 1) (da_cons (de_idx hu64 (de_var 2) (de_var 4)) da_nil))) (aCons_len (aCons_len (aCons_len aNil_len)))) da_nil) (aCons_len aNil_len))) (de_slice (de_var 2) (dpo_some (dp_op ok_add op_addD (dp_var 4) dp_int)) dpo_none)))))))
theorem ok_Lbent (T : Tx K mg cs) : FnOk P w K mg base (L2.CX P w) 9 T.a_Lbent T.d_Lbent ["_law_script", "_law_town", "_law_thing"] (spOf K excR ["_law_script", "_law_town", "_law_thing"].length (f_Lbent cs)) := okn_Lbent T 6
theorem okn_Lsame (T : Tx K mg cs) : ∀ n, FnOk P w K mg base (L2.CX P w) (1 + n) T.a_Lsame T.d_Lsame ["_law_got", "_law_due"] (spOf K excR ["_law_got", "_law_due"].length (fn_Lsame cs n))
  | 0 => fn_ok (k := 0) T.F_Lsame sc_Lsame fun cdv A outer s H E W w0 hr tk => dss_stuck
  | n + 1 => fn_ok (k := 1 + n) T.F_Lsame sc_Lsame fun cdv A outer s H E W w0 hr tk => by
    have ih := okn_Lsame T n
    have hu64 := hr.units
    have hu1 := Nat.lt_of_le_of_lt (Nat.add_le_add_left (show 1 ≤ 64 by decide) _) hr.units
    have pn := passes_of (X := cxOf (L2.CX P w) P w K mg base N_Lsame "_law_same" (defScope st_Lsame) T.a_Lsame cdv A outer s H E) rfl
    exact ((dss_cons (ds_if (dt_pure (dpt_cmp ok_isN op_isN (by rfl) (dp_var 1) dp_non)) (dss_one (ds_ret (de_cmp op_isN (OpG.ok ok_isN) (de_var 0) de_non (by rfl)))) dss_nil)
    (dss_cons (ds_if (dt_pure (dpt_tru (dp_isi (T := "bool") (by decide) (by decide +kernel) T.n_isinstance T.n_bool (dp_var 1)))) (dss_one (ds_ret (de_and (de_pure (dp_isi (T := "bool") (by decide) (by decide +kernel) T.n_isinstance T.n_bool (dp_var 0))) (de_one (de_cmp (op_eqD hu64) (OpG.ok ok_eq) (de_var 0) (de_var 1) (by rfl)))))) dss_nil)
    (dss_cons (ds_if (dt_pure (dpt_tru (dp_isi (T := "tuple") (by decide) (by decide +kernel) T.n_isinstance T.n_tuple (dp_var 1)))) (dss_cons (ds_if (dt_pure (dpt_w (dpw_or (dpt_not (dpt_tru (dp_isi (T := "tuple") (by decide) (by decide +kernel) T.n_isinstance T.n_tuple (dp_var 0)))) (dpw_or1 (dpt_cmp ok_ne (op_neD hu64) (by rfl) (dp_callB ok_len call_lenD (by decide +kernel) T.n_len (dpa_cons (dp_var 0) dpa_nil)) (dp_callB ok_len call_lenD (by decide +kernel) T.n_len (dpa_cons (dp_var 1) dpa_nil))))))) (dss_one (ds_ret de_bl)) dss_nil)
    (dss_one (ds_ret (de_callB ok_all (cr_all rfl) (by decide +kernel) T.n_all (da_cons (de_frz (df_comp (own := [("_law_one", 2), ("_law_other", 3)]) rfl sc_Lsame.nd (di_zip (da_cons (de_var 0) (da_cons (de_var 1) da_nil)) (fun h => RZ.pi_zipA (by rfl) T.n_zip h)) (blkOk_by (N := N_Lsame) (sc := defScope st_Lsame) (own := [("_law_one", 2), ("_law_other", 3)]) (by decide +kernel)) (fun _ _ _ _ _ => (dg_seq rfl (dgs_cons (dg_name 2 sc_Lsame.nd) (dgs_cons (dg_name 3 sc_Lsame.nd) dgs_nil)))) (fun _ _ _ _ _ => dts_nil) (fun _ _ _ _ _ => (de_call takes0 ih (hr.mono (by omega)) T.g_Lsame T.k_Lsame T.B_Lsame (da_cons (de_var 2) (da_cons (de_var 3) da_nil)) (aCons_len (aCons_len aNil_len)))))) da_nil))))) dss_nil)
    (dss_cons (ds_if (dt_pure (dpt_tru (dp_isi (T := "str") (by decide) (by decide +kernel) T.n_isinstance T.n_str (dp_var 1)))) (dss_one (ds_ret (de_and (de_pure (dp_isi (T := "str") (by decide) (by decide +kernel) T.n_isinstance T.n_str (dp_var 0))) (de_one (de_cmp (op_eqD hu64) (OpG.ok ok_eq) (de_var 0) (de_var 1) (by rfl)))))) dss_nil)
    (dss_one (ds_ret (de_and (de_pure (dp_isi (T := "int") (by decide) (by decide +kernel) T.n_isinstance T.n_int (dp_var 0))) (de_and (de_notT (de_pure (dp_isi (T := "bool") (by decide) (by decide +kernel) T.n_isinstance T.n_bool (dp_var 0)))) (de_one (de_cmp (op_eqD hu64) (OpG.ok ok_eq) (de_var 0) (de_var 1) (by rfl))))))))))))
theorem ok_Lsame (T : Tx K mg cs) : FnOk P w K mg base (L2.CX P w) 7 T.a_Lsame T.d_Lsame ["_law_got", "_law_due"] (spOf K excR ["_law_got", "_law_due"].length (f_Lsame cs)) := okn_Lsame T 6
theorem ok_Lis_whole (T : Tx K mg cs) : FnOk P w K mg base (L2.CX P w) 1 T.a_Lis_whole T.d_Lis_whole ["_law_thing", "_law_low", "_law_high"] (spOf K excR ["_law_thing", "_law_low", "_law_high"].length (f_Lis_whole cs)) :=
  fn_ok T.F_Lis_whole sc_Lis_whole fun cdv A outer s H E W w0 hr tk => by
    have hu64 := hr.units
    have hu1 := Nat.lt_of_le_of_lt (Nat.add_le_add_left (show 1 ≤ 64 by decide) _) hr.units
    have pn := passes_of (X := cxOf (L2.CX P w) P w K mg base N_Lis_whole "_law_is_whole" (defScope st_Lis_whole) T.a_Lis_whole cdv A outer s H E) rfl
    exact ((dss_one (ds_ret (de_and (de_pure (dp_isi (T := "int") (by decide) (by decide +kernel) T.n_isinstance T.n_int (dp_var 0))) (de_and (de_notT (de_pure (dp_isi (T := "bool") (by decide) (by decide +kernel) T.n_isinstance T.n_bool (dp_var 0)))) (de_one (de_chain op_leD (OpG.ok ok_le) op_leD (OpG.ok ok_le) (de_var 1) (de_var 0) (de_var 2))))))))
theorem ok_Lis_book (T : Tx K mg cs) : FnOk P w K mg base (L2.CX P w) 2 T.a_Lis_book T.d_Lis_book ["_law_thing"] (spOf K excR ["_law_thing"].length (f_Lis_book cs)) :=
  fn_ok T.F_Lis_book sc_Lis_book fun cdv A outer s H E W w0 hr tk => by
    have hu64 := hr.units
    have hu1 := Nat.lt_of_le_of_lt (Nat.add_le_add_left (show 1 ≤ 64 by decide) _) hr.units
    have pn := passes_of (X := cxOf (L2.CX P w) P w K mg base N_Lis_book "_law_is_book" (defScope st_Lis_book) T.a_Lis_book cdv A outer s H E) rfl
    exact ((dss_cons (ds_if (dt_pure (dpt_not (dpt_tru (dp_isi (T := "tuple") (by decide) (by decide +kernel) T.n_isinstance T.n_tuple (dp_var 0))))) (dss_one (ds_ret de_bl)) dss_nil)
    (dss_cons (ds_own 1 sc_Lis_book.nd (df_lst da_nil aNil_len))
    (dss_cons (ds_for pn rfl (di_seq (de_var 0)) (dg_name 2 sc_Lis_book.nd) (dss_cons (ds_if (dt_pure (dpt_w (dpw_or (dpt_not (dpt_tru (dp_isi (T := "tuple") (by decide) (by decide +kernel) T.n_isinstance T.n_tuple (dp_var 2)))) (dpw_or1 (dpt_cmp ok_ne (op_neD hu64) (by rfl) (dp_callB ok_len call_lenD (by decide +kernel) T.n_len (dpa_cons (dp_var 2) dpa_nil)) dp_int))))) (dss_one (ds_ret de_bl)) dss_nil)
    (dss_cons (ds_asg (de_var 2) (dg_seq rfl (dgs_cons (dg_name 3 sc_Lis_book.nd) (dgs_cons (dg_name 4 sc_Lis_book.nd) (dgs_cons (dg_name 5 sc_Lis_book.nd) dgs_nil)))))
    (dss_cons (ds_if (dt_w (dw_or (dt_pure (dpt_not (dpt_tru (dp_isi (T := "str") (by decide) (by decide +kernel) T.n_isinstance T.n_str (dp_var 3))))) (dw_or1 (dt_not (dt_chain op_ltD (OpG.ok ok_lt) op_ltD (OpG.ok ok_lt) de_int (de_callB ok_len call_lenD (by decide +kernel) T.n_len (da_cons (de_var 3) da_nil)) de_int))))) (dss_one (ds_ret de_bl)) dss_nil)
    (dss_cons (ds_if (dt_tru (de_frz (df_comp (own := [("_law_sign", 6)]) rfl sc_Lis_book.nd (di_seq (de_var 3)) (blkOk_by (N := N_Lis_book) (sc := defScope st_Lis_book) (own := [("_law_sign", 6)]) (by decide +kernel)) (fun _ _ _ _ _ => (dg_name 6 sc_Lis_book.nd)) (fun _ _ _ _ _ => (dts_one (dt_not (dt_chain op_leD (OpG.ok ok_le) op_leD (OpG.ok ok_le) de_str (de_var 6) de_str)))) (fun _ _ _ _ _ => (de_var 6))))) (dss_one (ds_ret de_bl)) dss_nil)
    (dss_cons (ds_if (dt_w (dw_or (dt_not (dt_tru (de_call tk (ok_Lis_whole T) (hr.mono (by decide)) T.g_Lis_whole T.k_Lis_whole T.B_Lis_whole (da_cons (de_var 4) (da_cons de_int (da_cons de_int da_nil))) (aCons_len (aCons_len (aCons_len aNil_len)))))) (dw_or1 (dt_pure (dpt_not (dpt_tru (dp_isi (T := "tuple") (by decide) (by decide +kernel) T.n_isinstance T.n_tuple (dp_var 5)))))))) (dss_one (ds_ret de_bl)) dss_nil)
    (dss_cons (ds_for pn rfl (di_seq (de_var 5)) (dg_name 7 sc_Lis_book.nd) (dss_cons (ds_if (dt_pure (dpt_w (dpw_or (dpt_not (dpt_tru (dp_isi (T := "tuple") (by decide) (by decide +kernel) T.n_isinstance T.n_tuple (dp_var 7)))) (dpw_or1 (dpt_cmp ok_ne (op_neD hu64) (by rfl) (dp_callB ok_len call_lenD (by decide +kernel) T.n_len (dpa_cons (dp_var 7) dpa_nil)) (dp_var 4)))))) (dss_one (ds_ret de_bl)) dss_nil)
    (dss_one (ds_if (dt_tru (de_frz (df_comp (own := [("_law_one", 8)]) rfl sc_Lis_book.nd (di_seq (de_var 7)) (blkOk_by (N := N_Lis_book) (sc := defScope st_Lis_book) (own := [("_law_one", 8)]) (by decide +kernel)) (fun _ _ _ _ _ => (dg_name 8 sc_Lis_book.nd)) (fun _ _ _ _ _ => (dts_one (dt_not (dt_tru (de_call takes0 (ok_Lis_whole T) (hr.mono (by decide)) T.g_Lis_whole T.k_Lis_whole T.B_Lis_whole (da_cons (de_var 8) (da_cons (de_pure (dp_neg dp_int)) (da_cons de_int da_nil))) (aCons_len (aCons_len (aCons_len aNil_len)))))))) (fun _ _ _ _ _ => (de_var 8))))) (dss_one (ds_ret de_bl)) dss_nil))))
    (dss_cons (ds_if (dt_cmp (op_neD hu64) (OpG.ok ok_ne) (de_callTy ok_lstOf call_list_of (by decide +kernel) T.n_list (da_cons (de_var 5) da_nil)) (de_sortSetU rfl hu64 (de_var 5) T.n_sorted T.n_set) (by rfl)) (dss_one (ds_ret de_bl)) dss_nil)
    (dss_one (ds_expr (de_append (do_slot 1) (da_cons (de_var 3) da_nil))))))))))))
    (dss_one (ds_ret (de_cmp (op_eqD hu64) (OpG.ok ok_eq) (de_var 1) (de_sortSetU rfl hu64 (de_var 1) T.n_sorted T.n_set) (by rfl))))))))
theorem ok_is_name (T : Tx K mg cs) : FnOk P w K mg base (L2.CX P w) 1 T.a_is_name T.d_is_name ["thing"] (spOf K excR ["thing"].length (f_is_name cs)) :=
  fn_ok T.F_is_name sc_is_name fun cdv A outer s H E W w0 hr tk => by
    have hu64 := hr.units
    have hu1 := Nat.lt_of_le_of_lt (Nat.add_le_add_left (show 1 ≤ 64 by decide) _) hr.units
    have pn := passes_of (X := cxOf (L2.CX P w) P w K mg base N_is_name "is_name" (defScope st_is_name) T.a_is_name cdv A outer s H E) rfl
    exact ((dss_one (ds_ret (de_and (de_pure (dp_isi (T := "str") (by decide) (by decide +kernel) T.n_isinstance T.n_str (dp_var 0))) (de_and (de_chain op_leD (OpG.ok ok_le) op_leD (OpG.ok ok_le) de_int (de_callB ok_len call_lenD (by decide +kernel) T.n_len (da_cons (de_var 0) da_nil)) de_int) (de_one (de_callB ok_all (cr_all rfl) (by decide +kernel) T.n_all (da_cons (de_frz (df_comp (own := [("sign", 1)]) rfl sc_is_name.nd (di_seq (de_var 0)) (blkOk_by (N := N_is_name) (sc := defScope st_is_name) (own := [("sign", 1)]) (by decide +kernel)) (fun _ _ _ _ _ => (dg_name 1 sc_is_name.nd)) (fun _ _ _ _ _ => dts_nil) (fun _ _ _ _ _ => (de_chain op_leD (OpG.ok ok_le) op_leD (OpG.ok ok_le) de_str (de_var 1) de_str)))) da_nil))))))))
theorem ok_is_whole (T : Tx K mg cs) : FnOk P w K mg base (L2.CX P w) 1 T.a_is_whole T.d_is_whole ["thing"] (spOf K excR ["thing"].length (f_is_whole cs)) :=
  fn_ok T.F_is_whole sc_is_whole fun cdv A outer s H E W w0 hr tk => by
    have hu64 := hr.units
    have hu1 := Nat.lt_of_le_of_lt (Nat.add_le_add_left (show 1 ≤ 64 by decide) _) hr.units
    have pn := passes_of (X := cxOf (L2.CX P w) P w K mg base N_is_whole "is_whole" (defScope st_is_whole) T.a_is_whole cdv A outer s H E) rfl
    exact ((dss_one (ds_ret (de_and (de_pure (dp_isi (T := "int") (by decide) (by decide +kernel) T.n_isinstance T.n_int (dp_var 0))) (de_one (de_notT (de_pure (dp_isi (T := "bool") (by decide) (by decide +kernel) T.n_isinstance T.n_bool (dp_var 0)))))))))
theorem ok_is_value (T : Tx K mg cs) : FnOk P w K mg base (L2.CX P w) 2 T.a_is_value T.d_is_value ["thing"] (spOf K excR ["thing"].length (f_is_value cs)) :=
  fn_ok T.F_is_value sc_is_value fun cdv A outer s H E W w0 hr tk => by
    have hu64 := hr.units
    have hu1 := Nat.lt_of_le_of_lt (Nat.add_le_add_left (show 1 ≤ 64 by decide) _) hr.units
    have pn := passes_of (X := cxOf (L2.CX P w) P w K mg base N_is_value "is_value" (defScope st_is_value) T.a_is_value cdv A outer s H E) rfl
    exact ((dss_one (ds_ret (de_and (de_call tk (ok_is_whole T) (hr.mono (by decide)) T.g_is_whole T.k_is_whole T.B_is_whole (da_cons (de_var 0) da_nil) (aCons_len aNil_len)) (de_one (de_chain op_leD (OpG.ok ok_le) op_leD (OpG.ok ok_le) (de_pure (dp_neg (dp_globI T.v_MOST))) (de_var 0) (de_globI T.v_MOST)))))))
theorem ok_is_row (T : Tx K mg cs) : FnOk P w K mg base (L2.CX P w) 3 T.a_is_row T.d_is_row ["thing", "width"] (spOf K excR ["thing", "width"].length (f_is_row cs)) :=
  fn_ok T.F_is_row sc_is_row fun cdv A outer s H E W w0 hr tk => by
    have hu64 := hr.units
    have hu1 := Nat.lt_of_le_of_lt (Nat.add_le_add_left (show 1 ≤ 64 by decide) _) hr.units
    have pn := passes_of (X := cxOf (L2.CX P w) P w K mg base N_is_row "is_row" (defScope st_is_row) T.a_is_row cdv A outer s H E) rfl
    exact ((dss_one (ds_ret (de_and (de_pure (dp_isi (T := "tuple") (by decide) (by decide +kernel) T.n_isinstance T.n_tuple (dp_var 0))) (de_and (de_cmp (op_eqD hu64) (OpG.ok ok_eq) (de_callB ok_len call_lenD (by decide +kernel) T.n_len (da_cons (de_var 0) da_nil)) (de_var 1) (by rfl)) (de_one (de_callB ok_all (cr_all rfl) (by decide +kernel) T.n_all (da_cons (de_frz (df_comp (own := [("one", 2)]) rfl sc_is_row.nd (di_seq (de_var 0)) (blkOk_by (N := N_is_row) (sc := defScope st_is_row) (own := [("one", 2)]) (by decide +kernel)) (fun _ _ _ _ _ => (dg_name 2 sc_is_row.nd)) (fun _ _ _ _ _ => dts_nil) (fun _ _ _ _ _ => (de_call takes0 (ok_is_value T) (hr.mono (by decide)) T.g_is_value T.k_is_value T.B_is_value (da_cons (de_var 2) da_nil) (aCons_len aNil_len))))) da_nil))))))))
theorem ok_are_rising (T : Tx K mg cs) : FnOk P w K mg base (L2.CX P w) 1 T.a_are_rising T.d_are_rising ["row"] (spOf K excR ["row"].length (f_are_rising cs)) :=
  fn_ok T.F_are_rising sc_are_rising fun cdv A outer s H E W w0 hr tk => by
    have hu64 := hr.units
    have hu1 := Nat.lt_of_le_of_lt (Nat.add_le_add_left (show 1 ≤ 64 by decide) _) hr.units
    have pn := passes_of (X := cxOf (L2.CX P w) P w K mg base N_are_rising "are_rising" (defScope st_are_rising) T.a_are_rising cdv A outer s H E) rfl
    exact ((dss_one (ds_ret (de_callB ok_all (cr_all rfl) (by decide +kernel) T.n_all (da_cons (de_frz (df_comp (own := [("one", 1), ("other", 2)]) rfl sc_are_rising.nd (di_zip (da_cons (de_var 0) (da_cons (de_slice (de_var 0) (dpo_some dp_int) dpo_none) da_nil)) (fun h => RZ.pi_zipA (by rfl) T.n_zip h)) (blkOk_by (N := N_are_rising) (sc := defScope st_are_rising) (own := [("one", 1), ("other", 2)]) (by decide +kernel)) (fun _ _ _ _ _ => (dg_seq rfl (dgs_cons (dg_name 1 sc_are_rising.nd) (dgs_cons (dg_name 2 sc_are_rising.nd) dgs_nil)))) (fun _ _ _ _ _ => dts_nil) (fun _ _ _ _ _ => (de_cmp (op_ltA hu64) (OpG.ok ok_ltA) (de_var 1) (de_var 2) (by rfl))))) da_nil)))))
theorem ok_is_book (T : Tx K mg cs) : FnOk P w K mg base (L2.CX P w) 4 T.a_is_book T.d_is_book ["thing"] (spOf K excR ["thing"].length (f_is_book cs)) :=
  fn_ok T.F_is_book sc_is_book fun cdv A outer s H E W w0 hr tk => by
    have hu64 := hr.units
    have hu1 := Nat.lt_of_le_of_lt (Nat.add_le_add_left (show 1 ≤ 64 by decide) _) hr.units
    have pn := passes_of (X := cxOf (L2.CX P w) P w K mg base N_is_book "is_book" (defScope st_is_book) T.a_is_book cdv A outer s H E) rfl
    exact ((dss_cons (ds_if (dt_w (dw_or (dt_pure (dpt_not (dpt_tru (dp_isi (T := "tuple") (by decide) (by decide +kernel) T.n_isinstance T.n_tuple (dp_var 0))))) (dw_or1 (dt_not (dt_tru (de_callB ok_all (cr_all rfl) (by decide +kernel) T.n_all (da_cons (de_frz (df_comp (own := [("one", 1)]) rfl sc_is_book.nd (di_seq (de_var 0)) (blkOk_by (N := N_is_book) (sc := defScope st_is_book) (own := [("one", 1)]) (by decide +kernel)) (fun _ _ _ _ _ => (dg_name 1 sc_is_book.nd)) (fun _ _ _ _ _ => dts_nil) (fun _ _ _ _ _ => (de_and (de_pure (dp_isi (T := "tuple") (by decide) (by decide +kernel) T.n_isinstance T.n_tuple (dp_var 1))) (de_one (de_cmp (op_eqD hu64) (OpG.ok ok_eq) (de_callB ok_len call_lenD (by decide +kernel) T.n_len (da_cons (de_var 1) da_nil)) de_int (by rfl))))))) da_nil))))))) (dss_one (ds_ret de_bl)) dss_nil)
    (dss_cons (ds_for pn rfl (di_seq (de_var 0)) (dg_seq rfl (dgs_cons (dg_name 2 sc_is_book.nd) (dgs_cons (dg_name 3 sc_is_book.nd) (dgs_cons (dg_name 4 sc_is_book.nd) dgs_nil)))) (dss_cons (ds_if (dt_w (dw_or (dt_not (dt_tru (de_call tk (ok_is_name T) (hr.mono (by decide)) T.g_is_name T.k_is_name T.B_is_name (da_cons (de_var 2) da_nil) (aCons_len aNil_len)))) (dw_or (dt_not (dt_tru (de_call tk (ok_is_whole T) (hr.mono (by decide)) T.g_is_whole T.k_is_whole T.B_is_whole (da_cons (de_var 3) da_nil) (aCons_len aNil_len)))) (dw_or (dt_not (dt_chain op_leD (OpG.ok ok_le) op_leD (OpG.ok ok_le) de_int (de_var 3) de_int)) (dw_or1 (dt_pure (dpt_not (dpt_tru (dp_isi (T := "tuple") (by decide) (by decide +kernel) T.n_isinstance T.n_tuple (dp_var 4)))))))))) (dss_one (ds_ret de_bl)) dss_nil)
    (dss_one (ds_if (dt_w (dw_or (dt_not (dt_tru (de_callB ok_all (cr_all rfl) (by decide +kernel) T.n_all (da_cons (de_frz (df_comp (own := [("row", 5)]) rfl sc_is_book.nd (di_seq (de_var 4)) (blkOk_by (N := N_is_book) (sc := defScope st_is_book) (own := [("row", 5)]) (by decide +kernel)) (fun _ _ _ _ _ => (dg_name 5 sc_is_book.nd)) (fun _ _ _ _ _ => dts_nil) (fun _ _ _ _ _ => (de_call takes0 (ok_is_row T) (hr.mono (by decide)) T.g_is_row T.k_is_row T.B_is_row (da_cons (de_var 5) (da_cons (de_var 3) da_nil)) (aCons_len (aCons_len aNil_len)))))) da_nil)))) (dw_or1 (dt_not (dt_tru (de_call tk (ok_are_rising T) (hr.mono (by decide)) T.g_are_rising T.k_are_rising T.B_are_rising (da_cons (de_var 4) da_nil) (aCons_len aNil_len))))))) (dss_one (ds_ret de_bl)) dss_nil))))
    (dss_one (ds_ret (de_call tk (ok_are_rising T) (hr.mono (by decide)) T.g_are_rising T.k_are_rising T.B_are_rising (da_cons (de_frz (df_comp (own := [("one", 1)]) rfl sc_is_book.nd (di_seq (de_var 0)) (blkOk_by (N := N_is_book) (sc := defScope st_is_book) (own := [("one", 1)]) (by decide +kernel)) (fun _ _ _ _ _ => (dg_name 1 sc_is_book.nd)) (fun _ _ _ _ _ => dts_nil) (fun _ _ _ _ _ => (de_idx hu64 (de_var 1) de_int)))) da_nil) (aCons_len aNil_len)))))))
theorem ok_law (T : Tx K mg cs) : FnOk P w K mg base (L2.CX P w) 10 T.a_law T.d_law ["_law_script"] (spOf K excR ["_law_script"].length (f_law cs)) :=
  fn_ok T.F_law sc_law fun cdv A outer s H E W w0 hr tk => by
    have hu64 := hr.units
    have hu1 := Nat.lt_of_le_of_lt (Nat.add_le_add_left (show 1 ≤ 64 by decide) _) hr.units
    have pn := passes_of (X := cxOf (L2.CX P w) P w K mg base N_law "law" (defScope st_law) T.a_law cdv A outer s H E) rfl
    exact ((dss_cons (ds_set 1 sc_law.nd (de_new (df_lst da_nil aNil_len)))
    (dss_cons (ds_for pn rfl (di_range1 (da_cons de_int da_nil) T.n_range (aCons_len aNil_len)) (dg_name 2 sc_law.nd) (dss_cons (ds_set 3 sc_law.nd (de_call tk (ok_Ldrawn_book T) (hr.mono (by decide)) T.g_Ldrawn_book T.k_Ldrawn_book T.B_Ldrawn_book (da_cons (de_var 0) (da_cons (de_var 1) (da_cons de_int (da_cons de_int da_nil)))) (aCons_len (aCons_len (aCons_len (aCons_len aNil_len))))))
    (dss_cons (ds_asg (de_idx hu64 (de_var 3) de_int) (dg_seq rfl (dgs_cons (dg_name 4 sc_law.nd) (dgs_cons (dg_name 5 sc_law.nd) (dgs_cons (dg_name 6 sc_law.nd) dgs_nil)))))
    (dss_cons (ds_own 7 sc_law.nd (df_lst (da_cons (de_var 3) (da_cons (de_rev (de_var 3)) (da_cons (de_op op_addD (OpG.ok ok_add) (de_var 3) (de_slice (de_var 3) dpo_none (dpo_some dp_int))) (da_cons (de_callTy ok_lstOf call_list_of (by decide +kernel) T.n_list (da_cons (de_var 3) da_nil)) (da_cons de_non (da_cons (de_tup da_nil aNil_len) (da_cons (de_idx hu64 (de_var 3) de_int) da_nil))))))) (aCons_len (aCons_len (aCons_len (aCons_len (aCons_len (aCons_len (aCons_len aNil_len)))))))))
    (dss_cons (ds_own 7 sc_law.nd (df_addL (de_var 7) (de_frz (df_lst (da_cons (de_slice (de_var 3) dpo_none (dpo_some dp_int)) (da_cons (de_tup (da_cons (de_tup (da_cons de_str (da_cons de_int (da_cons (de_tup da_nil aNil_len) da_nil))) (aCons_len (aCons_len (aCons_len aNil_len)))) da_nil) (aCons_len aNil_len)) (da_cons (de_tup (da_cons (de_tup (da_cons de_str (da_cons de_int (da_cons (de_tup da_nil aNil_len) da_nil))) (aCons_len (aCons_len (aCons_len aNil_len)))) da_nil) (aCons_len aNil_len)) da_nil))) (aCons_len (aCons_len (aCons_len aNil_len)))))))
    (dss_cons (ds_set 8 sc_law.nd (de_frz (df_lst (da_cons (de_tup (da_cons de_str (da_cons de_int (da_cons (de_tup (da_cons (de_tup (da_cons de_int da_nil) (aCons_len aNil_len)) (da_cons (de_tup (da_cons (de_pure (dp_neg dp_int)) da_nil) (aCons_len aNil_len)) da_nil)) (aCons_len (aCons_len aNil_len))) da_nil))) (aCons_len (aCons_len (aCons_len aNil_len)))) (da_cons (de_tup (da_cons de_str (da_cons de_int (da_cons (de_tup (da_cons (de_tup (da_cons (de_pure (dp_neg dp_int)) da_nil) (aCons_len aNil_len)) (da_cons (de_tup (da_cons de_int da_nil) (aCons_len aNil_len)) da_nil)) (aCons_len (aCons_len aNil_len))) da_nil))) (aCons_len (aCons_len (aCons_len aNil_len)))) da_nil)) (aCons_len (aCons_len aNil_len)))))
    (dss_cons (ds_set 8 sc_law.nd (de_op op_addD (OpG.ok ok_add) (de_var 8) (de_frz (df_lst (da_cons (de_tup (da_cons de_str (da_cons de_int (da_cons (de_tup (da_cons (de_tup (da_cons de_int da_nil) (aCons_len aNil_len)) da_nil) (aCons_len aNil_len)) da_nil))) (aCons_len (aCons_len (aCons_len aNil_len)))) (da_cons (de_tup (da_cons de_str (da_cons de_int (da_cons (de_tup (da_cons (de_tup (da_cons de_bl da_nil) (aCons_len aNil_len)) da_nil) (aCons_len aNil_len)) da_nil))) (aCons_len (aCons_len (aCons_len aNil_len)))) da_nil)) (aCons_len (aCons_len aNil_len))))))
    (dss_cons (ds_for pn rfl (di_seq (de_var 8)) (dg_name 9 sc_law.nd) (dss_one (ds_expr (de_append (do_slot 7) (da_cons (de_op op_addD (OpG.ok ok_add) (de_var 3) (de_tup (da_cons (de_var 9) da_nil) (aCons_len aNil_len))) da_nil)))))
    (dss_cons (ds_set 10 sc_law.nd (de_frz (df_lst (da_cons (de_tup (da_cons de_str (da_cons de_int (da_cons (de_tup (da_cons (de_tup (da_cons de_int da_nil) (aCons_len aNil_len)) (da_cons (de_tup (da_cons de_int da_nil) (aCons_len aNil_len)) da_nil)) (aCons_len (aCons_len aNil_len))) da_nil))) (aCons_len (aCons_len (aCons_len aNil_len)))) (da_cons (de_tup (da_cons de_str (da_cons de_int (da_cons (de_tup da_nil aNil_len) da_nil))) (aCons_len (aCons_len (aCons_len aNil_len)))) (da_cons (de_tup (da_cons de_str (da_cons de_int (da_cons (de_tup da_nil aNil_len) da_nil))) (aCons_len (aCons_len (aCons_len aNil_len)))) da_nil))) (aCons_len (aCons_len (aCons_len aNil_len))))))
    (dss_cons (ds_set 10 sc_law.nd (de_op op_addD (OpG.ok ok_add) (de_var 10) (de_frz (df_lst (da_cons (de_tup (da_cons de_str (da_cons de_int (da_cons (de_tup da_nil aNil_len) da_nil))) (aCons_len (aCons_len (aCons_len aNil_len)))) (da_cons (de_tup (da_cons de_str (da_cons de_int (da_cons (de_tup (da_cons (de_tup (da_cons de_int da_nil) (aCons_len aNil_len)) da_nil) (aCons_len aNil_len)) da_nil))) (aCons_len (aCons_len (aCons_len aNil_len)))) (da_cons (de_tup (da_cons de_str (da_cons de_int (da_cons (de_tup (da_cons (de_tup da_nil aNil_len) da_nil) (aCons_len aNil_len)) da_nil))) (aCons_len (aCons_len (aCons_len aNil_len)))) da_nil))) (aCons_len (aCons_len (aCons_len aNil_len)))))))
    (dss_cons (ds_for pn rfl (di_seq (de_var 10)) (dg_name 9 sc_law.nd) (dss_one (ds_expr (de_append (do_slot 7) (da_cons (de_op op_addD (OpG.ok ok_add) (de_var 3) (de_tup (da_cons (de_var 9) da_nil) (aCons_len aNil_len))) da_nil)))))
    (dss_cons (ds_own 7 sc_law.nd (df_addL (de_var 7) (de_frz (df_lst (da_cons (de_op op_addD (OpG.ok ok_add) (de_var 3) (de_tup (da_cons (de_tup (da_cons de_str (da_cons de_bl (da_cons (de_tup da_nil aNil_len) da_nil))) (aCons_len (aCons_len (aCons_len aNil_len)))) da_nil) (aCons_len aNil_len))) (da_cons (de_op op_addD (OpG.ok ok_add) (de_var 3) (de_tup (da_cons (de_tup (da_cons de_str (da_cons de_int (da_cons (de_frz (df_lst (da_cons (de_tup (da_cons de_int da_nil) (aCons_len aNil_len)) da_nil) (aCons_len aNil_len))) da_nil))) (aCons_len (aCons_len (aCons_len aNil_len)))) da_nil) (aCons_len aNil_len))) da_nil)) (aCons_len (aCons_len aNil_len))))))
    (dss_cons (ds_own 7 sc_law.nd (df_addL (de_var 7) (de_frz (df_lst (da_cons (de_op op_addD (OpG.ok ok_add) (de_var 3) (de_tup (da_cons (de_tup (da_cons de_str (da_cons de_int (da_cons (de_tup (da_cons (de_frz (df_lst (da_cons de_int da_nil) (aCons_len aNil_len))) da_nil) (aCons_len aNil_len)) da_nil))) (aCons_len (aCons_len (aCons_len aNil_len)))) da_nil) (aCons_len aNil_len))) (da_cons (de_op op_addD (OpG.ok ok_add) (de_var 3) (de_tup (da_cons (de_tup (da_cons de_str (da_cons de_int (da_cons (de_tup da_nil aNil_len) da_nil))) (aCons_len (aCons_len (aCons_len aNil_len)))) da_nil) (aCons_len aNil_len))) da_nil)) (aCons_len (aCons_len aNil_len))))))
    (dss_cons (ds_own 7 sc_law.nd (df_addL (de_var 7) (de_frz (df_lst (da_cons (de_tup (da_cons (de_tup (da_cons (de_var 4) (da_cons (de_var 5) (da_cons (de_rev (de_var 6)) da_nil))) (aCons_len (aCons_len (aCons_len aNil_len)))) da_nil) (aCons_len aNil_len)) (da_cons (de_tup (da_cons (de_tup (da_cons (de_var 4) (da_cons (de_var 5) (da_cons (de_op op_addD (OpG.ok ok_add) (de_var 6) (de_slice (de_var 6) dpo_none (dpo_some dp_int))) da_nil))) (aCons_len (aCons_len (aCons_len aNil_len)))) da_nil) (aCons_len aNil_len)) da_nil)) (aCons_len (aCons_len aNil_len))))))
    (dss_cons (ds_own 7 sc_law.nd (df_addL (de_var 7) (de_frz (df_comp (own := [("_law_j", 11)]) rfl sc_law.nd (di_range1 (da_cons de_int da_nil) T.n_range (aCons_len aNil_len)) (blkOk_by (N := N_law) (sc := defScope st_law) (own := [("_law_j", 11)]) (by decide +kernel)) (fun _ _ _ _ _ => (dg_name 11 sc_law.nd)) (fun _ _ _ _ _ => dts_nil) (fun _ _ _ _ _ => (de_call takes0 (ok_Lbent T) (hr.mono (by decide)) T.g_Lbent T.k_Lbent T.B_Lbent (da_cons (de_var 0) (da_cons (de_var 1) (da_cons (de_var 3) da_nil))) (aCons_len (aCons_len (aCons_len aNil_len)))))))))
    (dss_one (ds_if (dt_not (dt_tru (de_callB ok_all (cr_all rfl) (by decide +kernel) T.n_all (da_cons (de_frz (df_comp (own := [("_law_thing", 12)]) rfl sc_law.nd (di_seq (de_var 7)) (blkOk_by (N := N_law) (sc := defScope st_law) (own := [("_law_thing", 12)]) (by decide +kernel)) (fun _ _ _ _ _ => (dg_name 12 sc_law.nd)) (fun _ _ _ _ _ => dts_nil) (fun _ _ _ _ _ => (de_call takes0 (ok_Lsame T) (hr.mono (by decide)) T.g_Lsame T.k_Lsame T.B_Lsame (da_cons (de_call takes0 (ok_is_book T) (hr.mono (by decide)) T.g_is_book T.k_is_book T.B_is_book (da_cons (de_var 12) da_nil) (aCons_len aNil_len)) (da_cons (de_call takes0 (ok_Lis_book T) (hr.mono (by decide)) T.g_Lis_book T.k_Lis_book T.B_Lis_book (da_cons (de_var 12) da_nil) (aCons_len aNil_len)) da_nil)) (aCons_len (aCons_len aNil_len)))))) da_nil)))) (dss_one (ds_ret de_bl)) dss_nil)))))))))))))))))
    (dss_one (ds_ret de_bl)))))
end
end LW
namespace LW
open DL L2 PyProof.Rows PySem PySem.Spec
variable [TabT]
/-! ### drawn numbers -/
theorem ints_abs (ns : List Int) : (ns.map D.int).map (fun d => match d with | .int i => D.int (if i < 0 then -i else i) | d => d) = (ns.map fun i => if i < 0 then -i else i).map D.int := by
  rw [List.map_map, List.map_map]; rfl
theorem lift_at {ns : List Int} {i : Nat} (h : i < ns.length) : (ns.map D.int)[i]? = some (.int ns[i]) := by
  rw [List.getElem?_map, List.getElem?_eq_getElem h]; rfl
theorem set_at {S : Sto} {n : Nat} {m : MO} (h : n < S.length) : (S.set n m)[n]? = some m := List.getElem?_set_self h
theorem draw_spec (cs : Cs) (ns T : List Int) (S : Sto) (n : Nat) (many : Int) (h : S[n]? = some (.lst (T.map .int))) (hT : T.length + 2 < sizeLine) (hm : 0 < many) (hns : ns.length ≤ 63) :
    ∃ (r : Int) (T' : List Int), f_Ldraw cs [.lst (ns.map .int), .ref n, .int many] S = .ok (.int r) (S.set n (.lst (T'.map .int))) ∧ 0 ≤ r ∧ r < many ∧ T'.length ≤ T.length + 2 := by
  have hn : n < S.length := (List.getElem?_eq_some_iff.mp h).1
  -- the first cell
  have first : ∃ T1 : List Int, 0 < T1.length ∧ T1.length ≤ T.length + 1 ∧ ∀ ε, ε = startE 8 [.lst (ns.map .int), .ref n, .int many] →
      (sIf (ePT (pNot (pTru (pAt (pVar 1))))) (sExpr (eMut "list" (oRef (eVar 1)) mAppend (aCons (eCallP dMax (aCons (eOpP dAdd (eFrz (eComp (iSeq (eVar 0)) (gVar 3) tYesD (eCallP dAbs (aCons (eVar 3) aNil)) [3])) (eFrz (eLst (aCons (eCst (.int 0)) aNil)))) aNil)) aNil))) sNil) ε S = .nx ε (S.set n (.lst (T1.map .int))) := by
    cases T with
    | nil =>
      refine ⟨[maxI ((ns.map fun i => if i < 0 then -i else i) ++ [0])], by simp, by simp, fun ε e => ?_⟩
      subst e
      refine sIf_t (ε1 := startE 8 [.lst (ns.map .int), .ref n, .int many]) (S1 := S) ?_ ?_
      · refine ePT_ok (b := !false) (pNot_ok (pTru_ok (pAt_ok rfl h) rfl))
      · have c1 : lcL (gVar 3) tYesD (eCallP dAbs (aCons (eVar 3) aNil)) [3] (ns.map D.int) (wipeE (startE 8 [.lst (ns.map .int), .ref n, .int many]) [3]) S = .ok ((ns.map fun i => if i < 0 then -i else i).map D.int) (wipeE (startE 8 [.lst (ns.map .int), .ref n, .int many]) [3]) S := by
          have := comp_map (f := eCallP dAbs (aCons (eVar 3) aNil)) (i := 3) (ε := startE 8 [.lst (ns.map .int), .ref n, .int many]) (S := S) (F := fun d => match d with | .int i => D.int (if i < 0 then -i else i) | d => d) (ns.map D.int) (fun d hd => by
            obtain ⟨i, _, e⟩ := List.mem_map.mp hd
            subst e
            exact eCallP_ok (aCons_ok rfl rfl) rfl)
          rw [ints_abs] at this
          exact this
        have c2 : dAdd (MO.lst ((ns.map fun i => if i < 0 then -i else i).map D.int)).toD (MO.lst [D.int 0]).toD = some (.lst (((ns.map fun i => if i < 0 then -i else i) ++ [0]).map D.int)) := by
          rw [List.map_append]
          refine dAdd_lst ?_
          have : (64 : Nat) ≤ sizeLine := by decide
          simp only [List.length_map, List.length_cons, List.length_nil]
          omega
        have c3 : dMax [.lst (((ns.map fun i => if i < 0 then -i else i) ++ [0]).map D.int)] = some (.int (maxI ((ns.map fun i => if i < 0 then -i else i) ++ [0]))) := dMax_some (by simp)
        apply as_eq
        · (repeat' (first | exact hn | exact h | exact c1 | exact c2 | exact c3 | exact mAppend_lt (by show 0 < _; decide) | apply eFrz_ok | apply eOpP_ok | apply ePure_ok | apply eTup_ok | apply eLst_ok | apply aCons_ok | apply eCallP_ok | apply eCall_ok | apply eMeth_ok | apply eMeth0_ok | apply eMake_ok | apply eFld_ok | apply eMut_ok | apply oRef_ok | apply eNew_ok | apply eComp_ok | apply eSl_ok | apply eNotT_ok | apply iSeq_ok | apply iRange1_ok | apply iRange2_ok | apply iZip_ok | apply ePT_ok | apply tOf_ok | apply tTruE_ok | apply tNotE_ok | apply pOp_ok | apply pAt_ok | apply pFld_ok | apply pCall_ok | apply pCons_ok | apply pTup_ok | apply pLst_ok | apply pUn_ok | apply pPt_ok | apply pSl_ok | apply pTru_ok | apply pB_ok | apply pNot_ok | apply sSeq_nx | apply sRet_ok | apply sExpr_ok | apply sSet_ok | apply sOwn_ok | apply sAsg_ok | apply gSub_ok | apply sFldS_ok | exact (rfl : eVar _ _ _ = _) | exact (rfl : eCst _ _ _ = _) | exact (rfl : pVar _ _ _ = _) | exact (rfl : pCst _ _ _ = _) | exact (rfl : aNil _ _ = _) | exact (rfl : pNil _ _ = _) | exact (rfl : pNoP _ _ = _) | exact (rfl : tyM _ (MO.lst _) = _) | exact (rfl : seqOf (D.lst _) = _) | exact (rfl : seqOf (D.tup _) = _) | exact (rfl : dI _ (D.int _) (D.int _) = _) | exact (rfl : dAbs [D.int _] = _) | exact (rfl : dLen [D.lst _] = _) | exact (rfl : dLen [D.tup _] = _) | exact (rfl : dNeg (D.int _) = _) | exact (rfl : dTru (D.int _) = _) | exact (rfl : dTru (D.bl _) = _) | exact (rfl : lf (D.int _) = _) | exact (rfl : lf (D.bl _) = _) | exact (rfl : dInt1 [D.bl _] = _) | exact (rfl : dTupOf [D.lst _] = _) | exact (rfl : dTupOf [D.tup _] = _) | exact dMod_lit rfl | exact dDiv_lit rfl | exact dMul_l rfl | exact dMul_r rfl | exact dAdd_int))
        · rfl
    | cons t T =>
      refine ⟨t :: T, by simp, by simp, fun ε e => ?_⟩
      subst e
      refine sIf_f (ε1 := startE 8 [.lst (ns.map .int), .ref n, .int many]) (S1 := S) ?_ ?_
      · exact ePT_ok (b := !true) (pNot_ok (pTru_ok (pAt_ok rfl h) rfl))
      · rw [set_self h] <;> rfl
  obtain ⟨T1, h1, h2, hf⟩ := first
  obtain ⟨t, T1, rfl⟩ : ∃ t T2, T1 = t :: T2 := by
    cases T1 with
    | nil => simp at h1
    | cons t T2 => exact ⟨t, T2, rfl⟩
  have hl : ((t :: T1).map D.int).length < sizeLine := by rw [List.length_map]; omega
  have hn1 : n < (S.set n (.lst ((t :: T1).map .int))).length := by rw [List.length_set]; exact hn
  have g1 : (S.set n (.lst ((t :: T1).map .int)))[n]? = some (.lst ((t :: T1).map .int)) := set_at hn
  -- the cell of the script
  have hcell : ∀ (k : Int) (ε : EV) (S : Sto), ε[0]? = some (some (.val (.lst (ns.map .int)))) → ε[4]? = some (some (.val (.int k))) → 0 ≤ k → ∃ c : Int, eIf (ePT (pTru (pVar 0))) (eOpP dIdx (eVar 0) (eOpP dMod (eVar 4) (eCallP dLen (aCons (eVar 0) aNil)))) (eCst (.int 0)) ε S = .ok (.int c) ε S := by
    intro k ε S e0 e4 hk
    have v0 : ∀ S, eVar 0 ε S = .ok (.lst (ns.map .int)) ε S := fun S => by unfold eVar; rw [e0]
    have v4 : ∀ S, eVar 4 ε S = .ok (.int k) ε S := fun S => by unfold eVar; rw [e4]
    have p0 : pVar 0 ε S = some (.lst (ns.map .int)) := by unfold pVar; rw [e0]
    cases ns with
    | nil =>
      refine ⟨0, eIf_f (ε1 := ε) (S1 := S) ?_ rfl⟩
      exact ePT_ok (pTru_ok p0 rfl)
    | cons a l =>
      have hp : (0 : Int) < ((a :: l).map D.int).length := by simp
      have hb := Int.emod_nonneg k (Int.ne_of_gt hp)
      have hb2 := Int.emod_lt_of_pos k hp
      have hi : (k % ((a :: l).map D.int).length).toNat < (a :: l).length := by
        have e := List.length_map (as := a :: l) D.int
        rw [e] at hb hb2 ⊢
        omega
      refine ⟨(a :: l)[(k % ((a :: l).map D.int).length).toNat], eIf_t (ε1 := ε) (S1 := S) (ePT_ok (pTru_ok p0 rfl)) ?_⟩
      exact eOpP_ok (v0 S) (eOpP_ok (v4 S) (eCallP_ok (aCons_ok (v0 S) rfl) rfl) (dMod_lit (decide_eq_true hp))) (dIdx_at hb (lift_at hi))
  obtain ⟨c, hc⟩ := hcell ((((t :: T1) ++ [0]).map D.int).length : Nat) ((startE 8 [.lst (ns.map .int), .ref n, .int many]).set 4 (some (.val (.int ((((t :: T1) ++ [0]).map D.int).length : Nat))))) (S.set n (.lst (((t :: T1) ++ [0]).map .int))) rfl rfl (Int.natCast_nonneg _)
  have ss : ∀ a b : MO, (S.set n a).set n b = S.set n b := fun a b => List.set_set ..
  have ga : ∀ a : MO, (S.set n a)[n]? = some a := fun a => set_at hn
  have gl : ∀ a : MO, n < (S.set n a).length := fun a => by rw [List.length_set]; exact hn
  have e1 : mAppend (.lst ((t :: T1).map .int)) [.int 0] = some (.non, .lst (((t :: T1) ++ [0]).map .int)) := by
    rw [List.map_append]; exact mAppend_lt hl
  have i0 : dIdx (.lst (((t :: T1) ++ [0]).map .int)) (.int 0) = some (.int t) := dIdx_at (Int.le_refl 0) rfl
  have s0 : mSetL (.lst (((t :: T1) ++ [0]).map .int)) (.int 0) (.int (t / 65536)) = some (.lst (((t / 65536) :: (T1 ++ [0])).map .int)) := mSetL_at (Int.le_refl 0) (by simp)
  refine ⟨_, (t / 65536) :: (T1 ++ [0]), semOf_rt (ε1 := ?e) (d := .int ?r) ?run, ?lo, ?hi, ?len⟩
  case run =>
    unfold b_Ldraw
    refine sSeq_nx (hf _ rfl) ?_
    refine sSeq_nx (ε1 := startE 8 [.lst (ns.map .int), .ref n, .int many]) (S1 := S.set n (.lst (((t :: T1) ++ [0]).map .int))) ?_ ?_
    · apply as_eq
      · (repeat' (first | exact hn1 | exact g1 | exact e1 | apply eFrz_ok | apply eOpP_ok | apply ePure_ok | apply eTup_ok | apply eLst_ok | apply aCons_ok | apply eCallP_ok | apply eCall_ok | apply eMeth_ok | apply eMeth0_ok | apply eMake_ok | apply eFld_ok | apply eMut_ok | apply oRef_ok | apply eNew_ok | apply eComp_ok | apply eSl_ok | apply eNotT_ok | apply iSeq_ok | apply iRange1_ok | apply iRange2_ok | apply iZip_ok | apply ePT_ok | apply tOf_ok | apply tTruE_ok | apply tNotE_ok | apply pOp_ok | apply pAt_ok | apply pFld_ok | apply pCall_ok | apply pCons_ok | apply pTup_ok | apply pLst_ok | apply pUn_ok | apply pPt_ok | apply pSl_ok | apply pTru_ok | apply pB_ok | apply pNot_ok | apply sSeq_nx | apply sRet_ok | apply sExpr_ok | apply sSet_ok | apply sOwn_ok | apply sAsg_ok | apply gSub_ok | apply sFldS_ok | exact (rfl : eVar _ _ _ = _) | exact (rfl : eCst _ _ _ = _) | exact (rfl : pVar _ _ _ = _) | exact (rfl : pCst _ _ _ = _) | exact (rfl : aNil _ _ = _) | exact (rfl : pNil _ _ = _) | exact (rfl : pNoP _ _ = _) | exact (rfl : tyM _ (MO.lst _) = _) | exact (rfl : seqOf (D.lst _) = _) | exact (rfl : seqOf (D.tup _) = _) | exact (rfl : dI _ (D.int _) (D.int _) = _) | exact (rfl : dAbs [D.int _] = _) | exact (rfl : dLen [D.lst _] = _) | exact (rfl : dLen [D.tup _] = _) | exact (rfl : dNeg (D.int _) = _) | exact (rfl : dTru (D.int _) = _) | exact (rfl : dTru (D.bl _) = _) | exact (rfl : lf (D.int _) = _) | exact (rfl : lf (D.bl _) = _) | exact (rfl : dInt1 [D.bl _] = _) | exact (rfl : dTupOf [D.lst _] = _) | exact (rfl : dTupOf [D.tup _] = _) | exact dMod_lit rfl | exact dDiv_lit rfl | exact dMul_l rfl | exact dMul_r rfl | exact dAdd_int))
      · show SR.nx _ ((S.set n _).set n _) = _
        rw [ss] <;> rfl
    refine sSeq_nx (S1 := S.set n (.lst (((t :: T1) ++ [0]).map .int))) (ε1 := (startE 8 [.lst (ns.map .int), .ref n, .int many]).set 4 (some (.val (.int ((((t :: T1) ++ [0]).map D.int).length : Nat))))) (by (repeat' (first | exact ga _ | apply eFrz_ok | apply eOpP_ok | apply ePure_ok | apply eTup_ok | apply eLst_ok | apply aCons_ok | apply eCallP_ok | apply eCall_ok | apply eMeth_ok | apply eMeth0_ok | apply eMake_ok | apply eFld_ok | apply eMut_ok | apply oRef_ok | apply eNew_ok | apply eComp_ok | apply eSl_ok | apply eNotT_ok | apply iSeq_ok | apply iRange1_ok | apply iRange2_ok | apply iZip_ok | apply ePT_ok | apply tOf_ok | apply tTruE_ok | apply tNotE_ok | apply pOp_ok | apply pAt_ok | apply pFld_ok | apply pCall_ok | apply pCons_ok | apply pTup_ok | apply pLst_ok | apply pUn_ok | apply pPt_ok | apply pSl_ok | apply pTru_ok | apply pB_ok | apply pNot_ok | apply sSeq_nx | apply sRet_ok | apply sExpr_ok | apply sSet_ok | apply sOwn_ok | apply sAsg_ok | apply gSub_ok | apply sFldS_ok | exact (rfl : eVar _ _ _ = _) | exact (rfl : eCst _ _ _ = _) | exact (rfl : pVar _ _ _ = _) | exact (rfl : pCst _ _ _ = _) | exact (rfl : aNil _ _ = _) | exact (rfl : pNil _ _ = _) | exact (rfl : pNoP _ _ = _) | exact (rfl : tyM _ (MO.lst _) = _) | exact (rfl : seqOf (D.lst _) = _) | exact (rfl : seqOf (D.tup _) = _) | exact (rfl : dI _ (D.int _) (D.int _) = _) | exact (rfl : dAbs [D.int _] = _) | exact (rfl : dLen [D.lst _] = _) | exact (rfl : dLen [D.tup _] = _) | exact (rfl : dNeg (D.int _) = _) | exact (rfl : dTru (D.int _) = _) | exact (rfl : dTru (D.bl _) = _) | exact (rfl : lf (D.int _) = _) | exact (rfl : lf (D.bl _) = _) | exact (rfl : dInt1 [D.bl _] = _) | exact (rfl : dTupOf [D.lst _] = _) | exact (rfl : dTupOf [D.tup _] = _) | exact dMod_lit rfl | exact dDiv_lit rfl | exact dMul_l rfl | exact dMul_r rfl | exact dAdd_int))) ?_
    refine sSeq_nx (sSet_ok hc) ?_
    apply sSeq_nx
    · (repeat' (first | exact ga _ | exact i0 | apply eFrz_ok | apply eOpP_ok | apply ePure_ok | apply eTup_ok | apply eLst_ok | apply aCons_ok | apply eCallP_ok | apply eCall_ok | apply eMeth_ok | apply eMeth0_ok | apply eMake_ok | apply eFld_ok | apply eMut_ok | apply oRef_ok | apply eNew_ok | apply eComp_ok | apply eSl_ok | apply eNotT_ok | apply iSeq_ok | apply iRange1_ok | apply iRange2_ok | apply iZip_ok | apply ePT_ok | apply tOf_ok | apply tTruE_ok | apply tNotE_ok | apply pOp_ok | apply pAt_ok | apply pFld_ok | apply pCall_ok | apply pCons_ok | apply pTup_ok | apply pLst_ok | apply pUn_ok | apply pPt_ok | apply pSl_ok | apply pTru_ok | apply pB_ok | apply pNot_ok | apply sSeq_nx | apply sRet_ok | apply sExpr_ok | apply sSet_ok | apply sOwn_ok | apply sAsg_ok | apply gSub_ok | apply sFldS_ok | exact (rfl : eVar _ _ _ = _) | exact (rfl : eCst _ _ _ = _) | exact (rfl : pVar _ _ _ = _) | exact (rfl : pCst _ _ _ = _) | exact (rfl : aNil _ _ = _) | exact (rfl : pNil _ _ = _) | exact (rfl : pNoP _ _ = _) | exact (rfl : tyM _ (MO.lst _) = _) | exact (rfl : seqOf (D.lst _) = _) | exact (rfl : seqOf (D.tup _) = _) | exact (rfl : dI _ (D.int _) (D.int _) = _) | exact (rfl : dAbs [D.int _] = _) | exact (rfl : dLen [D.lst _] = _) | exact (rfl : dLen [D.tup _] = _) | exact (rfl : dNeg (D.int _) = _) | exact (rfl : dTru (D.int _) = _) | exact (rfl : dTru (D.bl _) = _) | exact (rfl : lf (D.int _) = _) | exact (rfl : lf (D.bl _) = _) | exact (rfl : dInt1 [D.bl _] = _) | exact (rfl : dTupOf [D.lst _] = _) | exact (rfl : dTupOf [D.tup _] = _) | exact dMod_lit rfl | exact dDiv_lit rfl | exact dMul_l rfl | exact dMul_r rfl | exact dAdd_int))
    apply sSeq_nx
    · apply sAsg_ok
      · (repeat' (first | exact ga _ | exact i0 | apply eFrz_ok | apply eOpP_ok | apply ePure_ok | apply eTup_ok | apply eLst_ok | apply aCons_ok | apply eCallP_ok | apply eCall_ok | apply eMeth_ok | apply eMeth0_ok | apply eMake_ok | apply eFld_ok | apply eMut_ok | apply oRef_ok | apply eNew_ok | apply eComp_ok | apply eSl_ok | apply eNotT_ok | apply iSeq_ok | apply iRange1_ok | apply iRange2_ok | apply iZip_ok | apply ePT_ok | apply tOf_ok | apply tTruE_ok | apply tNotE_ok | apply pOp_ok | apply pAt_ok | apply pFld_ok | apply pCall_ok | apply pCons_ok | apply pTup_ok | apply pLst_ok | apply pUn_ok | apply pPt_ok | apply pSl_ok | apply pTru_ok | apply pB_ok | apply pNot_ok | apply sSeq_nx | apply sRet_ok | apply sExpr_ok | apply sSet_ok | apply sOwn_ok | apply sAsg_ok | apply gSub_ok | apply sFldS_ok | exact (rfl : eVar _ _ _ = _) | exact (rfl : eCst _ _ _ = _) | exact (rfl : pVar _ _ _ = _) | exact (rfl : pCst _ _ _ = _) | exact (rfl : aNil _ _ = _) | exact (rfl : pNil _ _ = _) | exact (rfl : pNoP _ _ = _) | exact (rfl : tyM _ (MO.lst _) = _) | exact (rfl : seqOf (D.lst _) = _) | exact (rfl : seqOf (D.tup _) = _) | exact (rfl : dI _ (D.int _) (D.int _) = _) | exact (rfl : dAbs [D.int _] = _) | exact (rfl : dLen [D.lst _] = _) | exact (rfl : dLen [D.tup _] = _) | exact (rfl : dNeg (D.int _) = _) | exact (rfl : dTru (D.int _) = _) | exact (rfl : dTru (D.bl _) = _) | exact (rfl : lf (D.int _) = _) | exact (rfl : lf (D.bl _) = _) | exact (rfl : dInt1 [D.bl _] = _) | exact (rfl : dTupOf [D.lst _] = _) | exact (rfl : dTupOf [D.tup _] = _) | exact dMod_lit rfl | exact dDiv_lit rfl | exact dMul_l rfl | exact dMul_r rfl | exact dAdd_int))
      · (repeat' (first | exact ga _ | exact gl _ | exact s0 | apply eFrz_ok | apply eOpP_ok | apply ePure_ok | apply eTup_ok | apply eLst_ok | apply aCons_ok | apply eCallP_ok | apply eCall_ok | apply eMeth_ok | apply eMeth0_ok | apply eMake_ok | apply eFld_ok | apply eMut_ok | apply oRef_ok | apply eNew_ok | apply eComp_ok | apply eSl_ok | apply eNotT_ok | apply iSeq_ok | apply iRange1_ok | apply iRange2_ok | apply iZip_ok | apply ePT_ok | apply tOf_ok | apply tTruE_ok | apply tNotE_ok | apply pOp_ok | apply pAt_ok | apply pFld_ok | apply pCall_ok | apply pCons_ok | apply pTup_ok | apply pLst_ok | apply pUn_ok | apply pPt_ok | apply pSl_ok | apply pTru_ok | apply pB_ok | apply pNot_ok | apply sSeq_nx | apply sRet_ok | apply sExpr_ok | apply sSet_ok | apply sOwn_ok | apply sAsg_ok | apply gSub_ok | apply sFldS_ok | exact (rfl : eVar _ _ _ = _) | exact (rfl : eCst _ _ _ = _) | exact (rfl : pVar _ _ _ = _) | exact (rfl : pCst _ _ _ = _) | exact (rfl : aNil _ _ = _) | exact (rfl : pNil _ _ = _) | exact (rfl : pNoP _ _ = _) | exact (rfl : tyM _ (MO.lst _) = _) | exact (rfl : seqOf (D.lst _) = _) | exact (rfl : seqOf (D.tup _) = _) | exact (rfl : dI _ (D.int _) (D.int _) = _) | exact (rfl : dAbs [D.int _] = _) | exact (rfl : dLen [D.lst _] = _) | exact (rfl : dLen [D.tup _] = _) | exact (rfl : dNeg (D.int _) = _) | exact (rfl : dTru (D.int _) = _) | exact (rfl : dTru (D.bl _) = _) | exact (rfl : lf (D.int _) = _) | exact (rfl : lf (D.bl _) = _) | exact (rfl : dInt1 [D.bl _] = _) | exact (rfl : dTupOf [D.lst _] = _) | exact (rfl : dTupOf [D.tup _] = _) | exact dMod_lit rfl | exact dDiv_lit rfl | exact dMul_l rfl | exact dMul_r rfl | exact dAdd_int))
    simp only [putS, putE, ss]
    (repeat' (first | exact dMul_l (small_mod (by decide) (by decide)) | exact dMod_lit (decide_eq_true hm) | apply eFrz_ok | apply eOpP_ok | apply ePure_ok | apply eTup_ok | apply eLst_ok | apply aCons_ok | apply eCallP_ok | apply eCall_ok | apply eMeth_ok | apply eMeth0_ok | apply eMake_ok | apply eFld_ok | apply eMut_ok | apply oRef_ok | apply eNew_ok | apply eComp_ok | apply eSl_ok | apply eNotT_ok | apply iSeq_ok | apply iRange1_ok | apply iRange2_ok | apply iZip_ok | apply ePT_ok | apply tOf_ok | apply tTruE_ok | apply tNotE_ok | apply pOp_ok | apply pAt_ok | apply pFld_ok | apply pCall_ok | apply pCons_ok | apply pTup_ok | apply pLst_ok | apply pUn_ok | apply pPt_ok | apply pSl_ok | apply pTru_ok | apply pB_ok | apply pNot_ok | apply sSeq_nx | apply sRet_ok | apply sExpr_ok | apply sSet_ok | apply sOwn_ok | apply sAsg_ok | apply gSub_ok | apply sFldS_ok | exact (rfl : eVar _ _ _ = _) | exact (rfl : eCst _ _ _ = _) | exact (rfl : pVar _ _ _ = _) | exact (rfl : pCst _ _ _ = _) | exact (rfl : aNil _ _ = _) | exact (rfl : pNil _ _ = _) | exact (rfl : pNoP _ _ = _) | exact (rfl : tyM _ (MO.lst _) = _) | exact (rfl : seqOf (D.lst _) = _) | exact (rfl : seqOf (D.tup _) = _) | exact (rfl : dI _ (D.int _) (D.int _) = _) | exact (rfl : dAbs [D.int _] = _) | exact (rfl : dLen [D.lst _] = _) | exact (rfl : dLen [D.tup _] = _) | exact (rfl : dNeg (D.int _) = _) | exact (rfl : dTru (D.int _) = _) | exact (rfl : dTru (D.bl _) = _) | exact (rfl : lf (D.int _) = _) | exact (rfl : lf (D.bl _) = _) | exact (rfl : dInt1 [D.bl _] = _) | exact (rfl : dTupOf [D.lst _] = _) | exact (rfl : dTupOf [D.tup _] = _) | exact dMod_lit rfl | exact dDiv_lit rfl | exact dMul_l rfl | exact dMul_r rfl | exact dAdd_int))
  case lo => exact Int.emod_nonneg _ (Int.ne_of_gt hm)
  case hi => exact Int.emod_lt_of_pos _ hm
  case len =>
    simp only [List.length_cons, List.length_append, List.length_nil] at h2 ⊢
    omega
end LW
namespace LW
open DL L2 PyProof.Rows PySem PySem.Spec
variable [TabT]
/-! ### rows of numbers -/
def rowD (r : List Int) : D := .tup (r.map D.int)
theorem lays_ints (n : Nat) : ∀ r : List Int, lays n (r.map D.int) = true
  | [] => by simp [lays]
  | i :: r => by simp [lays, lay, lays_ints n r]
theorem gds_ints : ∀ r : List Int, gds (r.map D.int) = true
  | [] => by simp [gds]
  | i :: r => by simp [gds, gd, gds_ints r]
theorem lay_row (n : Nat) (r : List Int) : lay (n + 1) (rowD r) = true := by simp [rowD, lay, lays_ints]
theorem lays_rows (n : Nat) : ∀ rs : List (List Int), lays (n + 1) (rs.map rowD) = true
  | [] => by simp [lays]
  | r :: rs => by simp [lays, lay_row, lays_rows n rs]
theorem gd_row (r : List Int) : gd (rowD r) = true := by simp [rowD, gd, gds_ints]
theorem gds_rows : ∀ rs : List (List Int), gds (rs.map rowD) = true
  | [] => by simp [gds]
  | r :: rs => by simp [gds, gd_row, gds_rows rs]
theorem ints_inj : ∀ a b : List Int, a.map D.int = b.map D.int → a = b
  | [], [], _ => rfl
  | [], y :: b, h => by simp at h
  | x :: a, [], h => by simp at h
  | x :: a, y :: b, h => by
    simp only [List.map_cons, List.cons.injEq, D.int.injEq] at h
    rw [h.1, ints_inj a b h.2]
theorem rowD_inj {a b : List Int} (h : rowD a = rowD b) : a = b := by
  unfold rowD at h
  exact ints_inj a b (D.tup.inj h)
theorem deq_row (a b : List Int) : deq (rowD a) (rowD b) = decide (a = b) := by
  rcases enc_deq (rowD a) (rowD b) (gd_row a) (gd_row b) with ⟨h1, h2⟩ | ⟨h1, h2⟩
  · rw [h1, decide_eq_true (rowD_inj h2)]
  · rw [h1, decide_eq_false (fun e => by subst e; exact h2.ne rfl)]
theorem ctabs_ints : ∀ a b : List Int, ctabs (a.map D.int) (b.map D.int) = true
  | [], b => by simp [ctabs]
  | x :: a, [] => by simp [ctabs]
  | x :: a, y :: b => by simp [ctabs, ctab, ctabs_ints a b]
theorem ctab_row (a b : List Int) : ctab (rowD a) (rowD b) = true := by simp [rowD, ctab, ctabs_ints]
theorem sOk_rows {rs : List (List Int)} (h : ∀ r ∈ rs, r ≠ []) : sOk (rs.map rowD) = true := by
  unfold sOk
  have h1 : ((rs.map rowD).all fun x => (rs.map rowD).all fun y => ctab x y) = true := by
    simp only [List.all_eq_true, List.mem_map]
    rintro _ ⟨a, _, rfl⟩ _ ⟨b, _, rfl⟩
    exact ctab_row a b
  have h2 : ((rs.map rowD).all fun x => kn x == 3) = true := by
    simp only [List.all_eq_true, List.mem_map]
    rintro _ ⟨a, _, rfl⟩
    rfl
  have h3 : ((rs.map rowD).all fun x => kn (hd1 x) == 1) = true := by
    simp only [List.all_eq_true, List.mem_map]
    rintro _ ⟨a, ha, rfl⟩
    cases a with
    | nil => exact absurd rfl (h _ ha)
    | cons x a => rfl
  rw [lays_rows 15, gds_rows, h1, h2, h3]
  simp
theorem any_row (r : List Int) (rs : List (List Int)) : ((rs.map rowD).any fun z => deq z (rowD r)) = rs.contains r := by
  induction rs with
  | nil => rfl
  | cons a rs ih =>
    rw [List.map_cons, List.any_cons, ih, deq_row, List.contains_cons]
    congr 1
    by_cases e : a = r
    · subst e; simp
    · rw [decide_eq_false e]
      have : ¬ r = a := fun z => e z.symm
      simp [this]
theorem rep_row (r : List Int) (b : Bool) : dMul (.lst [rowD r]) (.int (if b then 1 else 0)) = some (.lst (if b then [rowD r] else [])) := by
  cases b <;> rfl
theorem unrow {n : Nat} {P : Int → Prop} : ∀ (ys : List D), ys.length = n → (∀ y ∈ ys, ∃ i : Int, y = .int i ∧ P i) → ∃ r : List Int, ys = r.map D.int ∧ r.length = n ∧ ∀ i ∈ r, P i
  | [], e, _ => ⟨[], rfl, e, fun i hi => by simp at hi⟩
  | y :: ys, e, h => by
    obtain ⟨i, e1, p⟩ := h y List.mem_cons_self
    obtain ⟨r, e2, e3, e4⟩ := unrow (n := ys.length) ys rfl fun z hz => h z (List.mem_cons_of_mem _ hz)
    refine ⟨i :: r, by rw [e1, e2]; rfl, by simp only [List.length_cons] at e ⊢; omega, fun j hj => ?_⟩
    rcases List.mem_cons.mp hj with z | z
    · subst z; exact p
    · exact e4 j z
def kept : Option SV → Option SV
  | some (.val d) => some (.val d)
  | _ => none
def unrowD : D → List Int
  | .tup ds => ds.map fun d => match d with | .int i => i | _ => 0
  | _ => []
theorem unrowD_row (r : List Int) : unrowD (rowD r) = r := by
  show (r.map D.int).map _ = r
  rw [List.map_map]
  exact (List.map_congr_left fun x _ => rfl).trans (List.map_id r)
theorem rows_perm {l : List D} {fd : List (List Int)} (h : l.Perm (fd.map rowD)) : ∃ rs : List (List Int), l = rs.map rowD ∧ rs.Perm fd := by
  refine ⟨l.map unrowD, ?_, ?_⟩
  · rw [List.map_map]
    refine ((List.map_congr_left fun x hx => ?_).trans (List.map_id l)).symm
    obtain ⟨r, _, e⟩ := List.mem_map.mp (h.mem_iff.mp hx)
    subst e
    show rowD (unrowD (rowD r)) = rowD r
    rw [unrowD_row]
  · have := h.map unrowD
    rw [List.map_map] at this
    exact this.trans (by rw [(List.map_congr_left fun x _ => unrowD_row x : fd.map (unrowD ∘ rowD) = fd.map id), List.map_id])
/-- the same length, each in its bounds -/
def RowOk (w : Nat) (far : Int) (r : List Int) : Prop := r.length = w ∧ ∀ i ∈ r, 0 ≤ i ∧ i < far
theorem rows_spec (cs : Cs) (ns T : List Int) (S : Sto) (n w m : Nat) (far : Int) (h : S[n]? = some (.lst (T.map .int))) (hT : T.length + 2 + m * (2 * w) + 10 < sizeLine) (hf : 0 < far) (hw : 0 < w) (hw2 : w ≤ 1000) (hm : m ≤ 1000) (hns : ns.length ≤ 63) :
    ∃ (rs : List (List Int)) (T' : List Int), f_Ldrawn_rows cs [.lst (ns.map .int), .ref n, .int w, .int m, .int far] S = .ok (.tup (rs.map rowD)) (S.set n (.lst (T'.map .int))) ∧ (∀ r ∈ rs, RowOk w far r) ∧ rs.length ≤ m ∧ rs.Nodup ∧ SrtO.Srtd dlt (rs.map rowD) ∧ T'.length ≤ T.length + 2 + m * (2 * w) := by
  have hn : n < S.length := (List.getElem?_eq_some_iff.mp h).1
  obtain ⟨r0, T0, e0, b1, b2, b3⟩ := draw_spec cs ns T S n (m + 1) h (by omega) (by omega) hns
  -- the loop
  have loop := for_inv (g := gVar 6) (b := (sSeq (sSet 7 (eCallP dTupOf (aCons (eFrz (eComp (iRange (aCons (eVar 2) aNil)) (gVar 8) tYesD (eCall (f_Ldraw cs) (aCons (eVar 0) (aCons (eVar 1) (aCons (eVar 4) aNil)))) [8])) aNil)))
    (sSet 5 (eOpP dAdd (eVar 5) (eOpP dMul (eFrz (eLst (aCons (eVar 7) aNil))) (eCallP dInt1 (aCons (eOpP (dIn true) (eVar 7) (eVar 5)) aNil)))))))
    (fun k ε S' => ∃ (fd : List (List Int)) (T' : List Int) (a b c : Option SV), ε = [some (.val (.lst (ns.map .int))), some (.val (.ref n)), some (.val (.int w)), some (.val (.int m)), some (.val (.int far)), some (.val (.lst (fd.map rowD))), a, b, c] ∧
      S' = S.set n (.lst (T'.map .int)) ∧ T'.length ≤ T.length + 2 + k * (2 * w) ∧ fd.length ≤ k ∧ (∀ r ∈ fd, RowOk w far r) ∧ fd.Nodup)
    (rngD 0 r0.toNat) 0 [some (.val (.lst (ns.map .int))), some (.val (.ref n)), some (.val (.int w)), some (.val (.int m)), some (.val (.int far)), some (.val (.lst [])), none, none, none] (S.set n (.lst (T0.map .int)))
    ⟨[], T0, none, none, none, rfl, rfl, by omega, Nat.le_refl _, fun r hr => by simp at hr, List.nodup_nil⟩
    (by
      rintro j d ε S' hd ⟨fd, T', a, b, c, rfl, rfl, l1, l2, l3, l4⟩
      have hj : j < r0.toNat := by
        have := (List.getElem?_eq_some_iff.mp hd).1
        simpa [rngD] using this
      have hjm : j < m := by omega
      have hlen : T'.length + 2 * w + 2 < sizeLine := by
        have e1 : (0 + j + 1) * (2 * w) ≤ m * (2 * w) := Nat.mul_le_mul_right _ (by omega)
        have e2 : (0 + j + 1) * (2 * w) = (0 + j) * (2 * w) + 2 * w := by rw [Nat.succ_mul]
        omega
      refine ⟨_, _, rfl, ?_⟩
      -- the row
      obtain ⟨ys, S2, c1, ⟨T2, eS2, c2⟩, c3, c4⟩ := comp_inv (f := eCall (f_Ldraw cs) (aCons (eVar 0) (aCons (eVar 1) (aCons (eVar 4) aNil)))) (i := 8) (ε := [some (.val (.lst (ns.map .int))), some (.val (.ref n)), some (.val (.int w)), some (.val (.int m)), some (.val (.int far)), some (.val (.lst (fd.map rowD))), some (.val d), b, c])
        (fun k S' => ∃ T2 : List Int, S' = S.set n (.lst (T2.map .int)) ∧ T2.length ≤ T'.length + 2 * k) (fun _ y => ∃ i : Int, y = .int i ∧ 0 ≤ i ∧ i < far) (rngD 0 w) 0 (S.set n (.lst (T'.map .int))) ⟨T', rfl, by omega⟩
        (by
          rintro j2 d2 S3 hd2 ⟨T2, rfl, q1⟩
          have hj2 : j2 < w := by
            have := (List.getElem?_eq_some_iff.mp hd2).1
            simpa [rngD] using this
          obtain ⟨r, T3, e3, p1, p2, p3⟩ := draw_spec cs ns T2 (S.set n (.lst (T2.map .int))) n far (set_at hn) (by omega) hf hns
          exact ⟨.int r, _, eCall_ok (aCons_ok rfl (aCons_ok rfl (aCons_ok rfl rfl))) e3, ⟨T3, List.set_set .., by omega⟩, r, rfl, p1, p2⟩)
      subst eS2
      have hrl : (rngD 0 w).length = w := by simp [rngD]
      rw [hrl] at c2 c3
      obtain ⟨row, ey, rl, rb⟩ := unrow (n := w) (P := fun i => 0 ≤ i ∧ i < far) ys c3 (fun y hy => by
        obtain ⟨q, hq⟩ := List.mem_iff_getElem?.mp hy
        have hql := (List.getElem?_eq_some_iff.mp hq).1
        have hdq : (rngD 0 w)[q]? = some (rngD 0 w)[q] := List.getElem?_eq_getElem (by rw [hrl, ← c3]; exact hql)
        exact c4 q _ y hdq hq)
      subst ey
      have hrng : rngOk 0 (w : Int) = true := by
        unfold rngOk
        have : (1000 : Nat) ≤ sizeLine := by decide
        simp only [Bool.and_eq_true, decide_eq_true_eq]
        omega
      have hin : dIn true (rowD row) (.lst (fd.map rowD)) = some (.bl (!fd.contains row)) := by
        show (if (lay 64 (rowD row) && lays 63 (fd.map rowD)) = true then some (D.bl (!((fd.map rowD).any fun z => deq z (rowD row)))) else none) = _
        rw [if_pos (by rw [lay_row 63, lays_rows 62]; rfl), any_row]
      have key : ∃ fd2 : List (List Int), dAdd (.lst (fd.map rowD)) (.lst (if (!fd.contains row) = true then [rowD row] else [])) = some (.lst (fd2.map rowD)) ∧ fd2.length ≤ 0 + j + 1 ∧ (∀ r ∈ fd2, RowOk w far r) ∧ fd2.Nodup := by
        have hz : fd.length + 1 ≤ sizeLine := by
          have : (1001 : Nat) ≤ sizeLine := by decide
          omega
        cases hc : fd.contains row with
        | true =>
          refine ⟨fd, ?_, by omega, l3, l4⟩
          have := dAdd_lst (a := fd.map rowD) (b := []) (by simp only [List.length_map, List.length_nil]; omega)
          rw [List.append_nil] at this
          exact this
        | false =>
          refine ⟨fd ++ [row], ?_, by simp; omega, fun r hr => ?_, ?_⟩
          · rw [List.map_append]
            show dAdd _ (.lst [rowD row]) = _
            exact dAdd_lst (by simp only [List.length_map, List.length_cons, List.length_nil]; omega)
          · rcases List.mem_append.mp hr with z | z
            · exact l3 r z
            · rw [List.mem_singleton.mp z]; exact ⟨rl, rb⟩
          · refine List.nodup_append.mpr ⟨l4, by simp, fun x hx y hy z => ?_⟩
            rw [List.mem_singleton.mp hy] at z
            subst z
            have : fd.contains x = true := by simpa using hx
            rw [hc] at this; cases this
      obtain ⟨fd2, k1, k2, k3, k4⟩ := key
      refine ⟨_, _, .inl ?_, fd2, T2, some (.val d), some (.val (rowD row)), kept c, rfl, rfl, ?_, k2, k3, k4⟩
      · refine sSeq_nx (ε1 := [some (.val (.lst (ns.map .int))), some (.val (.ref n)), some (.val (.int w)), some (.val (.int m)), some (.val (.int far)), some (.val (.lst (fd.map rowD))), some (.val d), some (.val (rowD row)), kept c]) (S1 := S.set n (.lst (T2.map .int))) ?_ ?_
        · apply as_eq
          · refine sSet_ok (eCallP_ok (aCons_ok (eFrz_ok (eComp_ok (iRange1_ok (aCons_ok rfl rfl) hrng) c1)) rfl) rfl)
          · cases c with
            | none => rfl
            | some c => cases c <;> rfl
        · apply as_eq
          · (repeat' (first | exact hin | exact rep_row row _ | exact k1 | apply eFrz_ok | apply eOpP_ok | apply ePure_ok | apply eTup_ok | apply eLst_ok | apply aCons_ok | apply eCallP_ok | apply eCall_ok | apply eMeth_ok | apply eMeth0_ok | apply eMake_ok | apply eFld_ok | apply eMut_ok | apply oRef_ok | apply eNew_ok | apply eComp_ok | apply eSl_ok | apply eNotT_ok | apply iSeq_ok | apply iRange1_ok | apply iRange2_ok | apply iZip_ok | apply ePT_ok | apply tOf_ok | apply tTruE_ok | apply tNotE_ok | apply pOp_ok | apply pAt_ok | apply pFld_ok | apply pCall_ok | apply pCons_ok | apply pTup_ok | apply pLst_ok | apply pUn_ok | apply pPt_ok | apply pSl_ok | apply pTru_ok | apply pB_ok | apply pNot_ok | apply sSeq_nx | apply sRet_ok | apply sExpr_ok | apply sSet_ok | apply sOwn_ok | apply sAsg_ok | apply gSub_ok | apply sFldS_ok | exact (rfl : eVar _ _ _ = _) | exact (rfl : eCst _ _ _ = _) | exact (rfl : pVar _ _ _ = _) | exact (rfl : pCst _ _ _ = _) | exact (rfl : aNil _ _ = _) | exact (rfl : pNil _ _ = _) | exact (rfl : pNoP _ _ = _) | exact (rfl : tyM _ (MO.lst _) = _) | exact (rfl : seqOf (D.lst _) = _) | exact (rfl : seqOf (D.tup _) = _) | exact (rfl : dI _ (D.int _) (D.int _) = _) | exact (rfl : dAbs [D.int _] = _) | exact (rfl : dLen [D.lst _] = _) | exact (rfl : dLen [D.tup _] = _) | exact (rfl : dNeg (D.int _) = _) | exact (rfl : dTru (D.int _) = _) | exact (rfl : dTru (D.bl _) = _) | exact (rfl : lf (D.int _) = _) | exact (rfl : lf (D.bl _) = _) | exact (rfl : dInt1 [D.bl _] = _) | exact (rfl : dTupOf [D.lst _] = _) | exact (rfl : dTupOf [D.tup _] = _) | exact dMod_lit rfl | exact dDiv_lit rfl | exact dMul_l rfl | exact dMul_r rfl | exact dAdd_int))
          · rfl
      · have : (0 + j + 1) * (2 * w) = (0 + j) * (2 * w) + 2 * w := by rw [Nat.succ_mul]
        omega)
  obtain ⟨ε', S', hfor, fd, T', a, b, c, rfl, rfl, l1, l2, l3, l4⟩ := loop
  have hlen : (rngD 0 r0.toNat).length = r0.toNat := by simp [rngD]
  rw [hlen] at l1 l2
  obtain ⟨rs, er, hp⟩ := rows_perm (dSort_perm (fd.map rowD))
  have ok : sOk (fd.map rowD) = true := sOk_rows fun r hr e => by
    have := (l3 r hr).1
    rw [e] at this
    simp at this
    omega
  have hso : dSorted [.lst (fd.map rowD)] = some (.lst (rs.map rowD)) := by
    show (if sOk (fd.map rowD) = true then some (D.lst (dSort (fd.map rowD))) else none) = _
    rw [if_pos ok, er]
  have hrng : rngOk 0 r0 = true := by
    unfold rngOk
    have : (1000 : Nat) ≤ sizeLine := by decide
    simp only [Bool.and_eq_true, decide_eq_true_eq]
    omega
  have hm2 : (0 + r0.toNat) * (2 * w) ≤ m * (2 * w) := Nat.mul_le_mul_right _ (by omega)
  refine ⟨rs, T', semOf_rt (sSeq_nx rfl (sSeq_nx (sFor_ok (iRange1_ok (aCons_ok (eCall_ok (aCons_ok rfl (aCons_ok rfl (aCons_ok (eOpP_ok rfl rfl rfl) rfl))) e0) rfl) hrng) hfor) (sRet_ok (eCallP_ok (aCons_ok (eCallP_ok (aCons_ok rfl rfl) hso) rfl) rfl)))), fun r hr => l3 r (hp.mem_iff.mp hr), by rw [hp.length_eq]; omega, hp.nodup_iff.mpr l4, by rw [← er]; exact dSort_srtd _, by omega⟩
end LW
namespace DL
open L2 PyProof.Rows PySem PySem.Spec
variable [TabT]
theorem eAndV_t {f g : ES D} {ε ε1 : EV} {S S1 : Sto} {r : R D} (h : f ε S = .ok (.bl true) ε1 S1) (h2 : g ε1 S1 = r) : eAndV f g ε S = r := by unfold eAndV; rw [h]; exact h2
theorem eAndV_f {f g : ES D} {ε ε1 : EV} {S S1 : Sto} (h : f ε S = .ok (.bl false) ε1 S1) : eAndV f g ε S = .ok (.bl false) ε1 S1 := by unfold eAndV; rw [h]; rfl
theorem eOrV_t {f g : ES D} {ε ε1 : EV} {S S1 : Sto} (h : f ε S = .ok (.bl true) ε1 S1) : eOrV f g ε S = .ok (.bl true) ε1 S1 := by unfold eOrV; rw [h]; rfl
theorem eOrV_f {f g : ES D} {ε ε1 : EV} {S S1 : Sto} {r : R D} (h : f ε S = .ok (.bl false) ε1 S1) (h2 : g ε1 S1 = r) : eOrV f g ε S = r := by unfold eOrV; rw [h]; exact h2
theorem eAndV_b {f g : ES D} {ε : EV} {S : Sto} {a b : Bool} (h : f ε S = .ok (.bl a) ε S) (h2 : g ε S = .ok (.bl b) ε S) : eAndV f g ε S = .ok (.bl (a && b)) ε S := by
  cases a with
  | true => exact eAndV_t h h2
  | false => exact eAndV_f h
theorem eOrV_b {f g : ES D} {ε : EV} {S : Sto} {a b : Bool} (h : f ε S = .ok (.bl a) ε S) (h2 : g ε S = .ok (.bl b) ε S) : eOrV f g ε S = .ok (.bl (a || b)) ε S := by
  cases a with
  | true => exact eOrV_t h
  | false => exact eOrV_f h h2
theorem tOrE_b {f g : ES Bool} {ε : EV} {S : Sto} {a b : Bool} (h : f ε S = .ok a ε S) (h2 : g ε S = .ok b ε S) : tOrE f g ε S = .ok (a || b) ε S := by
  cases a with
  | true => exact tOrE_t h
  | false => exact tOrE_f h h2
theorem tAndE_b {f g : ES Bool} {ε : EV} {S : Sto} {a b : Bool} (h : f ε S = .ok a ε S) (h2 : g ε S = .ok b ε S) : tAndE f g ε S = .ok (a && b) ε S := by
  cases a with
  | true => exact tAndE_t h h2
  | false => exact tAndE_f h
/-- a op b op' c -/
theorem chain_b {o o' : D → D → Option D} {fa fb fc : ES D} {ε : EV} {S : Sto} {x y z : D} {p q : Bool} (h1 : fa ε S = .ok x ε S) (h2 : fb ε S = .ok y ε S) (h3 : o x y = some (.bl p)) (h4 : fc ε S = .ok z ε S) (h5 : o' y z = some (.bl q)) :
    eChain (fun x y ε S => R.opt (o x y) ε S) (fun x y ε S => R.opt (o' x y) ε S) fa fb fc ε S = .ok (.bl (p && q)) ε S := by
  unfold eChain; rw [h1]; dsimp only [R.bind]; rw [h2]; dsimp only; rw [h3]; dsimp only [R.opt]
  cases p with
  | true => unfold goOn; dsimp only [isB]; rw [h4]; dsimp only [R.bind]; rw [h5]; rfl
  | false => rfl
theorem comp_filter {t : ES Bool} {f : ES D} {i : Nat} {ε : EV} {S : Sto} {P : D → Bool} {F : D → D} : ∀ (ds : List D), (∀ d ∈ ds, t ((wipeE ε [i]).set i (some (.val d))) S = .ok (P d) ((wipeE ε [i]).set i (some (.val d))) S) →
    (∀ d ∈ ds, P d = true → f ((wipeE ε [i]).set i (some (.val d))) S = .ok (F d) ((wipeE ε [i]).set i (some (.val d))) S) →
    lcL (gVar i) t f [i] ds (wipeE ε [i]) S = .ok ((ds.filter P).map F) (wipeE ε [i]) S
  | [], _, _ => rfl
  | d :: ds, h1, h2 => by
    have ih := comp_filter (t := t) (f := f) (i := i) (ε := ε) (S := S) (P := P) (F := F) ds (fun x hx => h1 x (List.mem_cons_of_mem _ hx)) (fun x hx => h2 x (List.mem_cons_of_mem _ hx))
    have ew : wipeE ((wipeE ε [i]).set i (some (.val d))) [i] = wipeE ε [i] := by
      simp only [wipeE, List.set_set]
    have a := h1 d List.mem_cons_self
    unfold lcL
    rw [show gVar i d (wipeE ε [i]) S = .ok () ((wipeE ε [i]).set i (some (.val d))) S from rfl]
    dsimp only [R.bind]
    rw [a]
    dsimp only
    cases hp : P d with
    | true =>
      rw [if_pos rfl, h2 d List.mem_cons_self hp]
      dsimp only
      rw [ew, ih, List.filter_cons, if_pos hp]
      rfl
    | false =>
      rw [if_neg (by decide), ew, ih, List.filter_cons, if_neg (by rw [hp]; decide)]
theorem boolsOf_mapB (B : D → Bool) : ∀ ds : List D, boolsOf (ds.map fun d => D.bl (B d)) = some (ds.map B)
  | [] => rfl
  | d :: ds => by
    show (boolsOf (ds.map fun d => D.bl (B d))).map (B d :: ·) = _
    rw [boolsOf_mapB B ds]; rfl
theorem dAll_map (B : D → Bool) (ds : List D) : dAll [.lst (ds.map fun d => D.bl (B d))] = some (.bl (ds.all B)) := by
  show (boolsOf (ds.map fun d => D.bl (B d))).map (fun bs => D.bl (bs.all id)) = _
  rw [boolsOf_mapB]
  show some (D.bl ((ds.map B).all id)) = _
  rw [List.all_map]; rfl
/-- all([B for x in ..]) -/
theorem all_comp {it : ES (List D)} {f : ES D} {i : Nat} {ε : EV} {S : Sto} {B : D → Bool} {ds : List D} (hi : it ε S = .ok ds ε S) (h : ∀ d ∈ ds, f ((wipeE ε [i]).set i (some (.val d))) S = .ok (.bl (B d)) ((wipeE ε [i]).set i (some (.val d))) S) (hb : backE ε (wipeE ε [i]) [i] = ε) :
    eCallP dAll (aCons (eFrz (eComp it (gVar i) tYesD f [i])) aNil) ε S = .ok (.bl (ds.all B)) ε S := by
  have c := eComp_ok (f := f) (vs := [i]) hi (comp_map (ε := ε) (F := fun d => .bl (B d)) ds h)
  rw [hb] at c
  exact eCallP_ok (aCons_ok (eFrz_ok c) (g := aNil) rfl) (dAll_map B ds)
/-- [x for x in .. if P] -/
theorem filter_comp {it : ES (List D)} {t : ES Bool} {i : Nat} {ε : EV} {S : Sto} {P : D → Bool} {ds : List D} (hi : it ε S = .ok ds ε S) (h : ∀ d ∈ ds, t ((wipeE ε [i]).set i (some (.val d))) S = .ok (P d) ((wipeE ε [i]).set i (some (.val d))) S)
    (hv : ∀ d, eVar i ((wipeE ε [i]).set i (some (.val d))) S = .ok d ((wipeE ε [i]).set i (some (.val d))) S) (hb : backE ε (wipeE ε [i]) [i] = ε) :
    eFrz (eComp it (gVar i) t (eVar i) [i]) ε S = .ok (.lst (ds.filter P)) ε S := by
  have c := eComp_ok (f := eVar i) (vs := [i]) hi (comp_filter (ε := ε) (F := fun d => d) (P := P) ds h fun d _ _ => hv d)
  rw [hb, List.map_id'] at c
  exact eFrz_ok c
theorem filter_none (P : D → Bool) (ds : List D) : (ds.filter fun d => !P d).isEmpty = ds.all P := by
  induction ds with
  | nil => rfl
  | cons d ds ih =>
    rw [List.filter_cons, List.all_cons]
    cases P d
    · rfl
    · simpa using ih
theorem backE_some_self {ε : EV} : True := trivial
/-- a loop that leaves with r where P does not hold -/
theorem for_all {g : GS} {b : SS} {r : D} {P : D → Bool} (E : List D → EV) (S : Sto) : ∀ (ds pre : List D), (∀ (q : List D) (d : D) (l : List D), pre ++ ds = q ++ d :: l → ∃ ε1, g d (E q) S = .ok () ε1 S ∧ (P d = true → b ε1 S = .nx (E (q ++ [d])) S) ∧ (P d = false → ∃ ε2, b ε1 S = .rt r ε2 S)) →
    (ds.all P = true → sForL g b ds (E pre) S = .nx (E (pre ++ ds)) S) ∧ (ds.all P = false → ∃ ε2, sForL g b ds (E pre) S = .rt r ε2 S)
  | [], pre, _ => ⟨fun _ => by rw [List.append_nil]; rfl, fun h => by cases h⟩
  | d :: ds, pre, h => by
    obtain ⟨ε1, h1, h2, h3⟩ := h pre d ds rfl
    have ih := for_all (g := g) (b := b) (r := r) (P := P) E S ds (pre ++ [d]) (fun q x l e => h q x l (by rw [← e]; simp))
    cases hp : P d with
    | true =>
      have e : sForL g b (d :: ds) (E pre) S = sForL g b ds (E (pre ++ [d])) S := by
        rw [sForL, h1]; dsimp only; rw [h2 hp]
      refine ⟨fun ha => ?_, fun ha => ?_⟩
      · rw [List.all_cons, hp, Bool.true_and] at ha
        have z := ih.1 ha
        rw [List.append_assoc] at z
        exact e.trans z
      · rw [List.all_cons, hp, Bool.true_and] at ha
        obtain ⟨ε2, k⟩ := ih.2 ha
        exact ⟨ε2, e.trans k⟩
    | false =>
      obtain ⟨ε2, h4⟩ := h3 hp
      refine ⟨fun ha => (by rw [List.all_cons, hp] at ha; cases ha), fun _ => ⟨ε2, ?_⟩⟩
      rw [sForL, h1]; dsimp only; rw [h4]
end DL
namespace LW
open DL L2 PyProof.Rows PySem PySem.Spec
variable [TabT]
theorem rng_at {n j : Nat} {d : D} (h : (rngD 0 n)[j]? = some d) : j < n ∧ d = .int j := by
  unfold rngD at h
  rw [List.getElem?_map] at h
  cases hi : (List.range n)[j]? with
  | none => rw [hi] at h; cases h
  | some k =>
    obtain ⟨l1, l2⟩ := List.getElem?_eq_some_iff.mp hi
    rw [hi] at h
    simp only [List.length_range] at l1
    simp only [List.getElem_range] at l2
    subst l2
    simp only [Option.map_some, Option.some.injEq] at h
    exact ⟨l1, by rw [← h]; simp⟩
theorem rngOk_nat {n : Nat} (h : n ≤ 1000) : rngOk 0 (n : Int) = true := by
  have : (1000 : Nat) ≤ sizeLine := by decide
  unfold rngOk
  simp only [Bool.and_eq_true, decide_eq_true_eq]
  omega
theorem rng_len {n : Nat} : (rngD 0 n).length = n := by unfold rngD; rw [List.length_map, List.length_range]
/-- one of some things -/
theorem pickD_spec (cs : Cs) (ns T : List Int) (S : Sto) (n : Nat) {ds : List D} (h0 : 0 < ds.length) (h : S[n]? = some (.lst (T.map .int))) (hT : T.length + 2 < sizeLine) (hns : ns.length ≤ 63) :
    ∃ (d : D) (T' : List Int), f_Lpick cs [.lst (ns.map .int), .ref n, .lst ds] S = .ok d (S.set n (.lst (T'.map .int))) ∧ d ∈ ds ∧ T'.length ≤ T.length + 2 := by
  obtain ⟨r, T', e, a, b, c⟩ := draw_spec cs ns T S n ds.length h hT (by omega) hns
  obtain ⟨i, ei⟩ : ∃ i : Nat, r = (i : Int) := ⟨r.toNat, by omega⟩
  subst ei
  have hi : i < ds.length := by omega
  refine ⟨ds[i], T', semOf_rt (sRet_ok (eOpP_ok rfl (eCall_ok (aCons_ok rfl (aCons_ok rfl (aCons_ok (eCallP_ok (aCons_ok rfl rfl) (d := .int ds.length) (by simp [dLen])) rfl))) e) (dIdx_at (Int.natCast_nonneg i) ?_))), List.getElem_mem hi, c⟩
  rw [Int.toNat_natCast, List.getElem?_eq_getElem hi]
theorem pickT_spec (cs : Cs) (ns T : List Int) (S : Sto) (n : Nat) {ds : List D} (h0 : 0 < ds.length) (h : S[n]? = some (.lst (T.map .int))) (hT : T.length + 2 < sizeLine) (hns : ns.length ≤ 63) :
    ∃ (d : D) (T' : List Int), f_Lpick cs [.lst (ns.map .int), .ref n, .tup ds] S = .ok d (S.set n (.lst (T'.map .int))) ∧ d ∈ ds ∧ T'.length ≤ T.length + 2 := by
  obtain ⟨r, T', e, a, b, c⟩ := draw_spec cs ns T S n ds.length h hT (by omega) hns
  obtain ⟨i, ei⟩ : ∃ i : Nat, r = (i : Int) := ⟨r.toNat, by omega⟩
  subst ei
  have hi : i < ds.length := by omega
  refine ⟨ds[i], T', semOf_rt (sRet_ok (eOpP_ok rfl (eCall_ok (aCons_ok rfl (aCons_ok rfl (aCons_ok (eCallP_ok (aCons_ok rfl rfl) (d := .int ds.length) (by simp [dLen])) rfl))) e) (dIdx_tup (Int.natCast_nonneg i) ?_))), List.getElem_mem hi, c⟩
  rw [Int.toNat_natCast, List.getElem?_eq_getElem hi]
/-! same -/
theorem same_bl (cs : Cs) (n : Nat) (b : Bool) (S : Sto) : fn_Lsame cs (n + 1) [.bl b, .bl b] S = .ok (.bl true) S := by
  have e : dEq (.bl b) (.bl b) = some (.bl true) := by cases b <;> rfl
  have e1 : eOpP dEq (eVar 0) (eVar 1) (startE N_Lsame.length [.bl b, .bl b]) S = .ok (.bl true) (startE N_Lsame.length [.bl b, .bl b]) S := eOpP_ok rfl rfl e
  have t1 : ePT (pB (pOp dIsN (pVar 1) (pCst (.non)))) (startE N_Lsame.length [.bl b, .bl b]) S = .ok false (startE N_Lsame.length [.bl b, .bl b]) S := rfl
  have t2 : ePT (pTru (pIs "bool" (pVar 1))) (startE N_Lsame.length [.bl b, .bl b]) S = .ok true (startE N_Lsame.length [.bl b, .bl b]) S := rfl
  have a1 : ePure (pIs "bool" (pVar 0)) (startE N_Lsame.length [.bl b, .bl b]) S = .ok (.bl true) (startE N_Lsame.length [.bl b, .bl b]) S := rfl
  exact semOf_rt (sSeq_nx (sIf_f t1 (r := .nx _ _) rfl) (sSeq_rt (sIf_t t2 (sRet_ok (eAndV_t a1 e1)))))
theorem same_str (cs : Cs) (n : Nat) (x : Str) (hx : PyData.strOk x = true) (S : Sto) : fn_Lsame cs (n + 1) [.str x, .str x] S = .ok (.bl true) S := by
  have e : dEq (.str x) (.str x) = some (.bl true) := by
    show (if (lay 64 (.str x) && lay 64 (.str x)) = true then some (D.bl (x == x)) else none) = _
    rw [if_pos (by simp [lay, hx])]; simp
  have e1 : eOpP dEq (eVar 0) (eVar 1) (startE N_Lsame.length [.str x, .str x]) S = .ok (.bl true) (startE N_Lsame.length [.str x, .str x]) S := eOpP_ok rfl rfl e
  have t1 : ePT (pB (pOp dIsN (pVar 1) (pCst (.non)))) (startE N_Lsame.length [.str x, .str x]) S = .ok false (startE N_Lsame.length [.str x, .str x]) S := rfl
  have t2 : ePT (pTru (pIs "bool" (pVar 1))) (startE N_Lsame.length [.str x, .str x]) S = .ok false (startE N_Lsame.length [.str x, .str x]) S := rfl
  have t3 : ePT (pTru (pIs "tuple" (pVar 1))) (startE N_Lsame.length [.str x, .str x]) S = .ok false (startE N_Lsame.length [.str x, .str x]) S := rfl
  have t4 : ePT (pTru (pIs "str" (pVar 1))) (startE N_Lsame.length [.str x, .str x]) S = .ok true (startE N_Lsame.length [.str x, .str x]) S := rfl
  have a1 : ePure (pIs "str" (pVar 0)) (startE N_Lsame.length [.str x, .str x]) S = .ok (.bl true) (startE N_Lsame.length [.str x, .str x]) S := rfl
  exact semOf_rt (sSeq_nx (sIf_f t1 (r := .nx _ _) rfl) (sSeq_nx (sIf_f t2 (r := .nx _ _) rfl) (sSeq_nx (sIf_f t3 (r := .nx _ _) rfl) (sSeq_rt (sIf_t t4 (sRet_ok (eAndV_t a1 e1)))))))
theorem same_int (cs : Cs) (n : Nat) (a : Int) (S : Sto) : fn_Lsame cs (n + 1) [.int a, .int a] S = .ok (.bl true) S := by
  have e : dEq (.int a) (.int a) = some (.bl true) := by
    show some (D.bl (a == a)) = _
    simp
  have e1 : eOpP dEq (eVar 0) (eVar 1) (startE N_Lsame.length [.int a, .int a]) S = .ok (.bl true) (startE N_Lsame.length [.int a, .int a]) S := eOpP_ok rfl rfl e
  have t1 : ePT (pB (pOp dIsN (pVar 1) (pCst (.non)))) (startE N_Lsame.length [.int a, .int a]) S = .ok false (startE N_Lsame.length [.int a, .int a]) S := rfl
  have t2 : ePT (pTru (pIs "bool" (pVar 1))) (startE N_Lsame.length [.int a, .int a]) S = .ok false (startE N_Lsame.length [.int a, .int a]) S := rfl
  have t3 : ePT (pTru (pIs "tuple" (pVar 1))) (startE N_Lsame.length [.int a, .int a]) S = .ok false (startE N_Lsame.length [.int a, .int a]) S := rfl
  have t4 : ePT (pTru (pIs "str" (pVar 1))) (startE N_Lsame.length [.int a, .int a]) S = .ok false (startE N_Lsame.length [.int a, .int a]) S := rfl
  have a1 : ePure (pIs "int" (pVar 0)) (startE N_Lsame.length [.int a, .int a]) S = .ok (.bl true) (startE N_Lsame.length [.int a, .int a]) S := rfl
  have a2 : eNotT (ePure (pIs "bool" (pVar 0))) (startE N_Lsame.length [.int a, .int a]) S = .ok (.bl true) (startE N_Lsame.length [.int a, .int a]) S := rfl
  exact semOf_rt (sSeq_nx (sIf_f t1 (r := .nx _ _) rfl) (sSeq_nx (sIf_f t2 (r := .nx _ _) rfl) (sSeq_nx (sIf_f t3 (r := .nx _ _) rfl) (sSeq_nx (sIf_f t4 (r := .nx _ _) rfl) (sRet_ok (eAndV_t a1 (eAndV_t a2 e1)))))))
theorem same_comp {f : ES D} {ε : EV} {S : Sto} : ∀ (ds : List D), (∀ d ∈ ds, f (((wipeE ε [2, 3]).set 2 (some (.val d))).set 3 (some (.val d))) S = .ok (.bl true) (((wipeE ε [2, 3]).set 2 (some (.val d))).set 3 (some (.val d))) S) →
    lcL (gSeqD 2 (ggCons (gVar 2) (ggCons (gVar 3) ggNil))) tYesD f [2, 3] ((ds.zip ds).map fun p => .tup [p.1, p.2]) (wipeE ε [2, 3]) S = .ok (ds.map fun _ => .bl true) (wipeE ε [2, 3]) S
  | [], _ => rfl
  | d :: ds, h => by
    have ih := same_comp (f := f) (ε := ε) (S := S) ds fun x hx => h x (List.mem_cons_of_mem _ hx)
    have a := h d List.mem_cons_self
    have ew : wipeE (((wipeE ε [2, 3]).set 2 (some (.val d))).set 3 (some (.val d))) [2, 3] = wipeE ε [2, 3] := by
      show (((((ε.set 3 none).set 2 none).set 2 (some (.val d))).set 3 (some (.val d))).set 3 none).set 2 none = (ε.set 3 none).set 2 none
      apply List.ext_getElem?
      intro k
      simp only [List.getElem?_set, List.length_set]
      by_cases h2 : 2 = k <;> by_cases h3 : 3 = k <;> simp [h2, h3]
    show lcL _ _ _ _ (.tup [d, d] :: (ds.zip ds).map fun p => .tup [p.1, p.2]) _ _ = _
    unfold lcL
    rw [show gSeqD 2 (ggCons (gVar 2) (ggCons (gVar 3) ggNil)) (.tup [d, d]) (wipeE ε [2, 3]) S = .ok () (((wipeE ε [2, 3]).set 2 (some (.val d))).set 3 (some (.val d))) S from gSeq_tup rfl (ggCons_ok rfl (ggCons_ok rfl rfl))]
    dsimp only [R.bind, tYesD]
    rw [if_pos rfl, a]
    dsimp only
    rw [ew, ih]
    rfl
theorem same_tup (cs : Cs) (n : Nat) (ds : List D) (S : Sto) (h : ∀ d ∈ ds, fn_Lsame cs n [d, d] S = .ok (.bl true) S) : fn_Lsame cs (n + 1) [.tup ds, .tup ds] S = .ok (.bl true) S := by
  have col := same_comp (f := eCall (fn_Lsame cs n) (aCons (eVar 2) (aCons (eVar 3) aNil))) (ε := startE N_Lsame.length [.tup ds, .tup ds]) (S := S) ds fun d hd => eCall_ok (aCons_ok rfl (aCons_ok rfl rfl)) (h d hd)
  have len : pOr (pNot (pTru (pIs "tuple" (pVar 0)))) (pB (pOp dNe (pCall dLen (pCons (pVar 0) pNil)) (pCall dLen (pCons (pVar 1) pNil)))) (startE N_Lsame.length [.tup ds, .tup ds]) S = some false := by
    show (some (!((ds.length : Int) == (ds.length : Int)))) = _
    simp
  have t1 : ePT (pB (pOp dIsN (pVar 1) (pCst (.non)))) (startE N_Lsame.length [.tup ds, .tup ds]) S = .ok false (startE N_Lsame.length [.tup ds, .tup ds]) S := rfl
  have t2 : ePT (pTru (pIs "bool" (pVar 1))) (startE N_Lsame.length [.tup ds, .tup ds]) S = .ok false (startE N_Lsame.length [.tup ds, .tup ds]) S := rfl
  have t3 : ePT (pTru (pIs "tuple" (pVar 1))) (startE N_Lsame.length [.tup ds, .tup ds]) S = .ok true (startE N_Lsame.length [.tup ds, .tup ds]) S := rfl
  refine semOf_rt (sSeq_nx (sIf_f t1 (r := .nx _ _) rfl) (sSeq_nx (sIf_f t2 (r := .nx _ _) rfl) (sSeq_rt (sIf_t t3 (sSeq_nx (sIf_f (ePT_ok len) (r := .nx _ _) rfl) (sRet_ok (eCallP_ok (aCons_ok (eFrz_ok (eComp_ok (iZip_ok (ps := ds.zip ds) (aCons_ok rfl (aCons_ok rfl rfl)) rfl) col)) rfl) ?_)))))))
  have := dAll_map (fun _ => true) ds
  exact this.trans (by simp)
end LW
namespace LW
open DL L2 PyProof.Rows PySem PySem.Spec
variable [TabT]
/-! ### each less than the next -/
def riseD : List D → Bool
  | [] => true
  | x :: l => (match l with
    | [] => true
    | y :: _ => dlt x y) && riseD l
theorem dlt_tr {x y z : D} (h1 : dlt x y = true) (h2 : dlt y z = true) : dlt x z = true := by
  cases h : dlt x z with
  | true => rfl
  | false =>
    have a := swo_d.tr y z x (swo_d.asym y z h2) h
    rw [h1] at a
    cases a
theorem rise_pair : ∀ {ds : List D}, riseD ds = true → ds.Pairwise fun a b => dlt a b = true
  | [], _ => List.Pairwise.nil
  | [x], _ => List.pairwise_singleton _ _
  | x :: y :: l, h => by
    have h' : (dlt x y && riseD (y :: l)) = true := h
    rw [Bool.and_eq_true] at h'
    have ih := rise_pair h'.2
    refine List.pairwise_cons.mpr ⟨fun z hz => ?_, ih⟩
    rcases List.mem_cons.mp hz with e | hz
    · subst e; exact h'.1
    · exact dlt_tr h'.1 ((List.pairwise_cons.mp ih).1 z hz)
theorem srt_rise : ∀ {ds : List D}, gds ds = true → SrtO.Srtd dlt ds → ds.Nodup → riseD ds = true
  | [], _, _, _ => rfl
  | [x], _, _, _ => rfl
  | x :: y :: l, hg, hs, hn => by
    have hs1 := List.pairwise_cons.mp hs
    have hn1 := List.nodup_cons.mp hn
    have hg1 : gds (y :: l) = true := gds_of fun d hd => gds_mem hg (List.mem_cons_of_mem _ hd)
    show (dlt x y && riseD (y :: l)) = true
    rw [srt_rise hg1 hs1.2 hn1.2, Bool.and_true]
    cases h : dlt x y with
    | true => rfl
    | false =>
      have e := dlt_anti (gds_mem hg List.mem_cons_self) (gds_mem hg (List.mem_cons_of_mem _ List.mem_cons_self)) h (hs1.1 y List.mem_cons_self)
      exact absurd (e ▸ List.mem_cons_self) hn1.1
theorem rise_sort {ds es : List D} (hg : gds ds = true) (hn : es.Nodup) (hm : ∀ x, x ∈ es ↔ x ∈ ds) : deqs ds (dSort es) = riseD ds := by
  have ge : gds es = true := gds_of fun d hd => gds_mem hg ((hm d).mp hd)
  have p : riseD ds = true → ds = dSort es := fun h => by
    have pw := rise_pair h
    have nd : ds.Nodup := pw.imp fun {a b} hab e => by
      subst e
      have := swo_d.asym a a hab
      rw [hab] at this
      cases this
    exact dSort_uniq ge ((List.perm_ext_iff_of_nodup nd hn).mpr fun x => (hm x).symm) (pw.imp fun {a b} hab => swo_d.asym a b hab)
  have q : ds = dSort es → riseD ds = true := fun e => by
    refine srt_rise hg ?_ ?_
    · rw [e]; exact dSort_srtd es
    · rw [e]; exact (dSort_perm es).nodup_iff.mpr hn
  have gs : gds (dSort es) = true := gds_of fun d hd => gds_mem ge ((dSort_perm es).mem_iff.mp hd)
  rcases encs_deqs ds (dSort es) hg gs with ⟨h1, h2⟩ | ⟨h1, h2⟩
  · rw [h1, q h2]
  · rw [h1]
    cases h : riseD ds with
    | false => rfl
    | true => exact absurd (congrArg encs (p h)) h2.ne
theorem rise_zip : ∀ ds : List D, ((ds.zip (ds.drop 1)).all fun p => dlt p.1 p.2) = riseD ds
  | [] => rfl
  | [x] => rfl
  | x :: y :: l => by
    have ih := rise_zip (y :: l)
    show (dlt x y && ((y :: l).zip l).all fun p => dlt p.1 p.2) = (dlt x y && riseD (y :: l))
    rw [← ih]
    rfl
/-! ### sorted(set(..)) of rows, of texts -/
theorem tupsI_rows : ∀ rs : List (List Int), tupsI (rs.map rowD) = some rs
  | [] => rfl
  | r :: rs => by
    show (intsOf (r.map D.int)).bind (fun ns => (tupsI (rs.map rowD)).map (ns :: ·)) = _
    rw [tupsI_rows rs, intsOf_map]
    rfl
theorem uOf_rows {rs : List (List Int)} (h : rs.length < 64) : uOf (rs.map rowD) = some ((ddL rs).map rowD) := by
  cases rs with
  | nil => rfl
  | cons r rs =>
    unfold uOf
    rw [if_neg (by rw [List.map_cons, List.all_cons]; simp [rowD, isIS]), tupsI_rows]
    dsimp only
    rw [if_pos h]
    rfl
theorem ddL_inr : ∀ ws : List Str, ddL (ws.map (Sum.inr : Str → Key)) = (ddL ws).map Sum.inr
  | [] => rfl
  | w :: ws => by
    have e : ((Sum.inr w : Key) ∈ ws.map (Sum.inr : Str → Key)) ↔ w ∈ ws := by
      rw [List.mem_map]
      constructor
      · rintro ⟨x, hx, e⟩
        injection e with e
        rw [← e]; exact hx
      · exact fun h => ⟨w, h, rfl⟩
    rw [List.map_cons]
    unfold ddL
    by_cases h : w ∈ ws
    · rw [if_pos h, if_pos (e.mpr h), ddL_inr ws]
    · rw [if_neg h, if_neg (fun z => h (e.mp z)), ddL_inr ws]
      rfl
theorem uOf_strs (ws : List Str) : uOf (ws.map D.str) = some ((ddL ws).map D.str) := by
  unfold uOf
  have h : (ws.map D.str).all isIS = true := by
    rw [List.all_map]
    exact List.all_eq_true.mpr fun w _ => rfl
  rw [if_pos h, List.map_map, show (ws.map (toKey ∘ D.str)) = ws.map (Sum.inr : Str → Key) from rfl, ddL_inr, List.map_map]
  rfl
theorem nodup_map {α β : Type} {f : α → β} (hf : ∀ a b, f a = f b → a = b) : ∀ {l : List α}, l.Nodup → (l.map f).Nodup := fun {l} h =>
  List.pairwise_map.mpr (h.imp fun {a b} hab e => hab (hf a b e))
theorem gds_strs : ∀ ws : List Str, gds (ws.map D.str) = true
  | [] => by simp [gds]
  | w :: ws => by simp [gds, gd, gds_strs ws]
theorem sOk_strs {ws : List Str} (h : ∀ w ∈ ws, PyData.strOk w = true) : sOk (ws.map D.str) = true := by
  unfold sOk
  have h1 : ((ws.map D.str).all fun x => (ws.map D.str).all fun y => ctab x y) = true := by
    simp only [List.all_eq_true, List.mem_map]
    rintro _ ⟨a, _, rfl⟩ _ ⟨b, _, rfl⟩
    simp [ctab]
  have h2 : ((ws.map D.str).all fun x => kn x == 2) = true := by
    simp only [List.all_eq_true, List.mem_map]
    rintro _ ⟨a, _, rfl⟩
    rfl
  have h3 : lays 16 (ws.map D.str) = true := lays_of fun d hd => by
    obtain ⟨w, hw, rfl⟩ := List.mem_map.mp hd
    simp [lay, h w hw]
  rw [h3, gds_strs, h1, h2]
  simp
theorem scan60 {n : Nat} (h : n ≤ 63) : decide (n + 1 < scanBound) = true := decide_eq_true (by unfold scanBound; omega)
theorem sortset_rows {rs : List (List Int)} (h : rs.length ≤ 63) (hr : ∀ r ∈ rs, r ≠ []) : dSrtU (rs.map rowD) = some (.lst (dSort ((ddL rs).map rowD))) := by
  unfold dSrtU
  rw [uOf_rows (by omega)]
  show (if _ then _ else _) = _
  rw [if_pos (by rw [List.length_map, scan60 h, sOk_rows fun r hm => hr r (ddL_mem.mp hm)]; rfl)]
theorem sortset_strs {ws : List Str} (h : ws.length ≤ 63) (hs : ∀ w ∈ ws, PyData.strOk w = true) : dSrtU (ws.map D.str) = some (.lst (dSort ((ddL ws).map D.str))) := by
  unfold dSrtU
  rw [uOf_strs]
  show (if _ then _ else _) = _
  rw [if_pos (by rw [List.length_map, scan60 h, sOk_strs fun r hm => hs r (ddL_mem.mp hm)]; rfl)]
theorem rows_eq {rs : List (List Int)} : deqs (rs.map rowD) (dSort ((ddL rs).map rowD)) = riseD (rs.map rowD) :=
  rise_sort (gds_rows rs) (nodup_map (fun a b e => rowD_inj e) ddL_nodup) fun x => by
    rw [List.mem_map, List.mem_map]
    exact ⟨fun ⟨a, ha, e⟩ => ⟨a, ddL_mem.mp ha, e⟩, fun ⟨a, ha, e⟩ => ⟨a, ddL_mem.mpr ha, e⟩⟩
theorem strs_eq {ws : List Str} : deqs (ws.map D.str) (dSort ((ddL ws).map D.str)) = riseD (ws.map D.str) :=
  rise_sort (gds_strs ws) (nodup_map (fun a b e => D.str.inj e) ddL_nodup) fun x => by
    rw [List.mem_map, List.mem_map]
    exact ⟨fun ⟨a, ha, e⟩ => ⟨a, ddL_mem.mp ha, e⟩, fun ⟨a, ha, e⟩ => ⟨a, ddL_mem.mpr ha, e⟩⟩
/-! ### the order of the program's comparison -/
theorem lex_ints : ∀ a b : List Int, HT.lexLt (encs (a.map D.int)) (encs (b.map D.int)) = HT.lexLt a b
  | [], b => by
    show HT.lexLt (encs []) (encs (b.map D.int)) = _
    rw [dlt_nil, List.length_map]
    cases b <;> rfl
  | x :: a, [] => by
    show HT.lexLt (encs (.int x :: a.map D.int)) (encs []) = _
    rw [dlt_nil2]
    rfl
  | x :: a, y :: b => by
    rw [List.map_cons, List.map_cons, dlt_cons rfl rfl, lex_ints a b, dlt_int, HT.lexLt_cons]
    by_cases e : x = y
    · subst e; simp [deq]
    · simp [deq, e]
theorem ltT_rows (a b : List Int) : dLtT (rowD a) (rowD b) = some (.bl (dlt (rowD a) (rowD b))) := by
  have e : dlt (rowD a) (rowD b) = HT.lexLt a b := by
    unfold dlt rowD
    simp only [enc]
    rw [HT.lexLt_cons, if_pos rfl, lex_ints]
  rw [e]
  show (intsOf (a.map D.int)).bind (fun ns => (intsOf (b.map D.int)).bind fun ms => some (D.bl (HT.lexLt ns ms))) = _
  rw [intsOf_map, intsOf_map]
  rfl
theorem ltT_strs (x y : Str) : dLtT (.str x) (.str y) = some (.bl (dlt (.str x) (.str y))) := by
  rw [dlt_str]
  rfl
end LW
namespace LW
open DL L2 PyProof.Rows PySem PySem.Spec
variable [TabT]
/-! ### what may be handed in -/
def Good : Nat → D → Prop
  | _, .non => True
  | _, .bl _ => True
  | _, .int _ => True
  | _, .str x => x.length ≤ 60 ∧ PyData.strOk x = true
  | n + 1, .tup ds => ds.length ≤ 60 ∧ ∀ d ∈ ds, Good n d
  | n + 1, .lst ds => ds.length ≤ 60 ∧ ∀ d ∈ ds, Good n d
  | _, _ => False
theorem Good.up : ∀ {n : Nat} {d : D}, Good n d → Good (n + 1) d
  | _, .non, _ => trivial
  | _, .bl _, _ => trivial
  | _, .int _, _ => trivial
  | _, .str x, h => by cases ‹Nat› <;> exact h
  | 0, .tup ds, h => h.elim
  | 0, .lst ds, h => h.elim
  | n + 1, .tup ds, h => ⟨h.1, fun d hd => Good.up (h.2 d hd)⟩
  | n + 1, .lst ds, h => ⟨h.1, fun d hd => Good.up (h.2 d hd)⟩
  | n, .dic _ _ _, h => by cases n <;> exact h.elim
  | n, .ref _, h => by cases n <;> exact h.elim
theorem Good.tup {n : Nat} {ds : List D} (h : Good n (.tup ds)) : ds.length ≤ 60 ∧ ∀ d ∈ ds, Good n d := by
  cases n with
  | zero => exact h.elim
  | succ n => exact ⟨h.1, fun d hd => Good.up (h.2 d hd)⟩
theorem Good.str {n : Nat} {x : Str} (h : Good n (.str x)) : x.length ≤ 60 ∧ PyData.strOk x = true := by cases n <;> exact h
theorem Good.noRef {n : Nat} {d : D} (h : Good n d) : (∀ k, d ≠ .ref k) ∧ ∀ t a b, d ≠ .dic t a b := by
  refine ⟨fun k e => ?_, fun t a b e => ?_⟩
  · subst e; cases n <;> exact h
  · subst e; cases n <;> exact h
theorem big60 : (60 : Nat) ≤ sizeLine := by decide
/-! ### names, values -/
def signB : D → Bool
  | .str y => (!decide (y.cps.toList < ("a" : Str).cps.toList)) && (!decide (("z" : Str).cps.toList < y.cps.toList))
  | _ => false
def nameD : D → Bool
  | .str x => (decide ((1 : Int) ≤ (x.length : Nat)) && decide (((x.length : Nat) : Int) ≤ 6)) && (chars x).all signB
  | _ => false
def valueD : D → Bool
  | .int i => decide (-9999 ≤ i) && decide (i ≤ 9999)
  | _ => false
def isStrD : D → Bool
  | .str _ => true
  | _ => false
def isTupD : D → Bool
  | .tup _ => true
  | _ => false
theorem seq_str {x : Str} (h : x.length ≤ 60) : seqOf (.str x) = some (chars x) := by
  show (if x.length ≤ sizeLine then some (chars x) else none) = _
  rw [if_pos (Nat.le_trans h big60)]
theorem len_str {x : Str} (h : x.length ≤ 60) : dLen [.str x] = some (.int (x.length : Nat)) := by
  show (if x.length ≤ sizeLine then some (D.int x.length) else none) = _
  rw [if_pos (Nat.le_trans h big60)]
theorem sign_at {x : Str} {d : D} (h : d ∈ chars x) : ∃ y, d = .str y := by
  unfold chars at h
  obtain ⟨c, _, e⟩ := List.mem_map.mp h
  exact ⟨_, e.symm⟩
theorem sign_chain {fb : ES D} {ε : EV} {S : Sto} {d : D} {y : Str} (e : d = .str y) (h : fb ε S = .ok d ε S) :
    eChain (fun x y ε S => R.opt (dLe x y) ε S) (fun x y ε S => R.opt (dLe x y) ε S) (eCst (.str "a")) fb (eCst (.str "z")) ε S = .ok (.bl (signB d)) ε S := by
  subst e
  exact chain_b (x := .str "a") (y := .str y) (z := .str "z") rfl h rfl rfl rfl
theorem is_name_spec (cs : Cs) {n : Nat} {d : D} (h : Good n d) (S : Sto) : f_is_name cs [d] S = .ok (.bl (nameD d)) S := by
  cases d with
  | str x =>
    have hl := h.str.1
    have E : startE N_is_name.length [.str x] = [some (.val (.str x)), none] := rfl
    have ln : eCallP dLen (aCons (eVar 0) aNil) (startE N_is_name.length [.str x]) S = .ok (.int (x.length : Nat)) (startE N_is_name.length [.str x]) S := eCallP_ok (aCons_ok rfl rfl) (len_str hl)
    have c1 := chain_b (o := dLe) (o' := dLe) (fa := eCst (.int 1)) (fc := eCst (.int 6)) (x := .int 1) (z := .int 6) (p := decide ((1 : Int) ≤ (x.length : Nat))) (q := decide (((x.length : Nat) : Int) ≤ 6)) rfl ln rfl rfl rfl
    have c2 := all_comp (i := 1) (f := eChain (fun x y ε S => R.opt (dLe x y) ε S) (fun x y ε S => R.opt (dLe x y) ε S) (eCst (.str "a")) (eVar 1) (eCst (.str "z"))) (B := signB) (iSeq_ok (f := eVar 0) (ε := startE N_is_name.length [.str x]) (S := S) rfl (seq_str hl)) (fun d hd => by
      obtain ⟨y, e⟩ := sign_at hd
      exact sign_chain e rfl) rfl
    exact semOf_rt (sRet_ok (eAndV_t rfl (eAndV_b c1 c2)))
  | ref k => exact absurd rfl (h.noRef.1 k)
  | dic t a b => exact absurd rfl (h.noRef.2 t a b)
  | _ => rfl
theorem is_value_spec (cs : Cs) {n : Nat} {d : D} (h : Good n d) (S : Sto) : f_is_value cs [d] S = .ok (.bl (valueD d)) S := by
  cases d with
  | int i =>
    have c1 := chain_b (o := dLe) (o' := dLe) (ε := startE N_is_value.length [.int i]) (S := S) (fa := ePure (pUn dNeg (pCst (.int 9999)))) (fb := eVar 0) (fc := eCst (.int 9999)) (x := .int (-9999)) (y := .int i) (z := .int 9999) (p := decide (-9999 ≤ i)) (q := decide (i ≤ 9999)) rfl rfl rfl rfl rfl
    have w : f_is_whole cs [.int i] S = .ok (.bl true) S := rfl
    exact semOf_rt (sRet_ok (eAndV_t (eCall_ok (ds := [.int i]) rfl w) c1))
  | ref k => exact absurd rfl (h.noRef.1 k)
  | dic t a b => exact absurd rfl (h.noRef.2 t a b)
  | _ => rfl
end LW
namespace LW
open DL L2 PyProof.Rows PySem PySem.Spec
variable [TabT]
/-! ### what is bent -/
def Raw : Nat → D → Prop
  | _, .int i => 0 ≤ i ∧ i ≤ 9
  | _, .str x => x.length ≤ 60 ∧ PyData.strOk x = true
  | n + 1, .tup ds => ds.length ≤ 28 ∧ ∀ d ∈ ds, Raw n d
  | _, _ => False
theorem Raw.good : ∀ {n : Nat} {d : D}, Raw n d → Good n d
  | n, .int i, _ => by cases n <;> trivial
  | n, .str x, h => by cases n <;> exact h
  | n + 1, .tup ds, h => ⟨Nat.le_trans h.1 (by decide), fun d hd => Raw.good (h.2 d hd)⟩
  | 0, .tup ds, h => h.elim
  | n, .non, h => by cases n <;> exact h.elim
  | n, .bl _, h => by cases n <;> exact h.elim
  | n, .lst _, h => by cases n <;> exact h.elim
  | n, .dic _ _ _, h => by cases n <;> exact h.elim
  | n, .ref _, h => by cases n <;> exact h.elim
theorem Good.upTo {n : Nat} {d : D} (h : Good n d) : ∀ k, Good (n + k) d
  | 0 => h
  | k + 1 => (h.upTo k).up
def baseL : List D := [.non, .bl true, .bl false, .int 0, .int 1, .int (-1), .int 9999, .int 10000, .str "p", .str "a", .str "", .str "A", .tup [], .lst [], .tup [.int 1], .tup [.str "a", .str "b"], .tup [.str "p", .int 1, .tup []]]
theorem good_s {n : Nat} {x : Str} (h : (decide (x.length ≤ 60) && PyData.strOk x) = true) : Good n (.str x) := by
  simp only [Bool.and_eq_true, decide_eq_true_eq] at h
  cases n <;> exact h
theorem base_good : ∀ d ∈ baseL, Good 2 d := by
  intro d hd
  simp only [baseL, List.mem_cons, List.not_mem_nil, or_false] at hd
  have ga : Good 1 (.str "a") := good_s (by decide +kernel)
  have gb : Good 1 (.str "b") := good_s (by decide +kernel)
  have gp : Good 1 (.str "p") := good_s (by decide +kernel)
  rcases hd with e | e | e | e | e | e | e | e | e | e | e | e | e | e | e | e | e <;> subst e
  · trivial
  · trivial
  · trivial
  · trivial
  · trivial
  · trivial
  · trivial
  · trivial
  · exact good_s (by decide +kernel)
  · exact good_s (by decide +kernel)
  · exact good_s (by decide +kernel)
  · exact good_s (by decide +kernel)
  · exact ⟨by simp, fun d hd => by simp at hd⟩
  · exact ⟨by simp, fun d hd => by simp at hd⟩
  · exact ⟨by simp, fun d hd => by rw [List.mem_singleton.mp hd]; trivial⟩
  · refine ⟨by simp, fun d hd => ?_⟩
    simp only [List.mem_cons, List.not_mem_nil, or_false] at hd
    rcases hd with e | e
    · rw [e]; exact ga
    · rw [e]; exact gb
  · refine ⟨by simp, fun d hd => ?_⟩
    simp only [List.mem_cons, List.not_mem_nil, or_false] at hd
    rcases hd with e | e | e
    · rw [e]; exact gp
    · rw [e]; trivial
    · rw [e]; exact ⟨by simp, fun d hd => by simp at hd⟩
def tupL (ds : List D) : List D := [.lst ds, .tup (dCut ds none (some (-1))), .tup (ds ++ dCut ds (some (-1)) none), .tup (dCut ds (some 1) none), .tup ds.reverse, .tup (ds ++ [.non])]
theorem cut_mem {ds : List D} {lo hi : Option Int} {d : D} (h : d ∈ dCut ds lo hi) : d ∈ ds := List.mem_of_mem_drop (List.mem_of_mem_take h)
theorem cut_len {ds : List D} {lo hi : Option Int} : (dCut ds lo hi).length ≤ ds.length := by
  unfold dCut
  rw [List.length_take, List.length_drop]
  omega
theorem tup_good {n : Nat} {ds : List D} (hl : ds.length ≤ 28) (h : ∀ d ∈ ds, Good n d) : ∀ d ∈ tupL ds, Good (n + 1) d := by
  intro d hd
  simp only [tupL, List.mem_cons, List.not_mem_nil, or_false] at hd
  have c1 := @cut_len _ ds none (some (-1))
  have c2 := @cut_len _ ds (some (-1)) none
  have c3 := @cut_len _ ds (some 1) none
  rcases hd with e | e | e | e | e | e <;> subst e
  · exact ⟨by omega, h⟩
  · exact ⟨by omega, fun d hd => h d (cut_mem hd)⟩
  · refine ⟨by rw [List.length_append]; omega, fun d hd => ?_⟩
    rcases List.mem_append.mp hd with z | z
    · exact h d z
    · exact h d (cut_mem z)
  · exact ⟨by omega, fun d hd => h d (cut_mem hd)⟩
  · exact ⟨by rw [List.length_reverse]; omega, fun d hd => h d (List.mem_reverse.mp hd)⟩
  · refine ⟨by rw [List.length_append]; simp; omega, fun d hd => ?_⟩
    rcases List.mem_append.mp hd with z | z
    · exact h d z
    · rw [List.mem_singleton.mp z]; cases n <;> trivial
theorem small_str (i : Int) (h0 : 0 ≤ i) (h1 : i ≤ 9) : (decide (i.natAbs.log2 < 1920) && (decide ((toString i : Str).length ≤ 60) && PyData.strOk (toString i : Str))) = true := by
  have : i = 0 ∨ i = 1 ∨ i = 2 ∨ i = 3 ∨ i = 4 ∨ i = 5 ∨ i = 6 ∨ i = 7 ∨ i = 8 ∨ i = 9 := by omega
  rcases this with e | e | e | e | e | e | e | e | e | e <;> subst e <;> decide +kernel
def intL (i : Int) : List D := [.int (i + 1), .int (i - 1), .bl (!(i != 0)), .tup [.int i], .str (toString i)]
theorem int_good {i : Int} (h0 : 0 ≤ i) (h1 : i ≤ 9) : ∀ d ∈ intL i, Good 2 d := by
  intro d hd
  have s := small_str i h0 h1
  simp only [Bool.and_eq_true, decide_eq_true_eq] at s
  simp only [intL, List.mem_cons, List.not_mem_nil, or_false] at hd
  rcases hd with e | e | e | e | e <;> subst e
  · trivial
  · trivial
  · trivial
  · exact ⟨by simp, fun d hd => by rw [List.mem_singleton.mp hd]; trivial⟩
  · exact s.2
def bentA (cs : Cs) : SS := (sSeq (sSet 3 (eFrz (eLst (aCons (eCst (.non)) (aCons (eCst (.bl true)) (aCons (eCst (.bl false)) (aCons (eCst (.int 0)) (aCons (eCst (.int 1)) (aCons (ePure (pUn dNeg (pCst (.int 1)))) (aCons (eCst (.int 9999)) (aCons (eCst (.int 10000)) (aCons (eCst (.str "p")) (aCons (eCst (.str "a")) (aCons (eCst (.str "")) (aCons (eCst (.str "A")) (aCons (eTup aNil) (aCons (eFrz (eLst aNil)) (aCons (eTup (aCons (eCst (.int 1)) aNil)) (aCons (eTup (aCons (eCst (.str "a")) (aCons (eCst (.str "b")) aNil))) (aCons (eTup (aCons (eCst (.str "p")) (aCons (eCst (.int 1)) (aCons (eTup aNil) aNil)))) aNil))))))))))))))))))))
    (sSeq (sIf (ePT (pTru (pIs "tuple" (pVar 2)))) (sSet 3 (eOpP dAdd (eVar 3) (eFrz (eLst (aCons (eCallP dLstOf (aCons (eVar 2) aNil)) (aCons (eSl (eVar 2) pNoP (pPt (pUn dNeg (pCst (.int 1))))) (aCons (eOpP dAdd (eVar 2) (eSl (eVar 2) (pPt (pUn dNeg (pCst (.int 1)))) pNoP)) (aCons (eSl (eVar 2) (pPt (pCst (.int 1))) pNoP) (aCons (eRev (eVar 2)) (aCons (eOpP dAdd (eVar 2) (eTup (aCons (eCst (.non)) aNil))) aNil)))))))))) sNil)
    (sSeq (sIf (ePT (pTru (pIs "int" (pVar 2)))) (sSet 3 (eOpP dAdd (eVar 3) (eOpP dMul (eFrz (eLst (aCons (eOpP dAdd (eVar 2) (eCst (.int 1))) (aCons (eOpP dSub (eVar 2) (eCst (.int 1))) (aCons (eNotT (eVar 2)) (aCons (eTup (aCons (eVar 2) aNil)) (aCons (eCallP dStr1 (aCons (eVar 2) aNil)) aNil))))))) (eCst (.int 2))))) sNil)
    (sRet (eCall (f_Lpick cs) (aCons (eVar 0) (aCons (eVar 1) (aCons (eVar 3) aNil))))))))
theorem bentA_spec (cs : Cs) (ns T : List Int) (S : Sto) (k : Nat) {n : Nat} {d : D} (a3 a4 : Option SV) (hd : Raw n d) (h : S[k]? = some (.lst (T.map .int))) (hT : T.length + 2 < sizeLine) (hns : ns.length ≤ 63) :
    ∃ (d' : D) (T' : List Int) (ε' : EV), bentA cs [some (.val (.lst (ns.map .int))), some (.val (.ref k)), some (.val d), a3, a4] S = .rt d' ε' (S.set k (.lst (T'.map .int))) ∧ Good (n + 2) d' ∧ T'.length ≤ T.length + 2 := by
  have big := big60
  have s1 : ∀ d, sSet 3 (eFrz (eLst (aCons (eCst (.non)) (aCons (eCst (.bl true)) (aCons (eCst (.bl false)) (aCons (eCst (.int 0)) (aCons (eCst (.int 1)) (aCons (ePure (pUn dNeg (pCst (.int 1)))) (aCons (eCst (.int 9999)) (aCons (eCst (.int 10000)) (aCons (eCst (.str "p")) (aCons (eCst (.str "a")) (aCons (eCst (.str "")) (aCons (eCst (.str "A")) (aCons (eTup aNil) (aCons (eFrz (eLst aNil)) (aCons (eTup (aCons (eCst (.int 1)) aNil)) (aCons (eTup (aCons (eCst (.str "a")) (aCons (eCst (.str "b")) aNil))) (aCons (eTup (aCons (eCst (.str "p")) (aCons (eCst (.int 1)) (aCons (eTup aNil) aNil)))) aNil))))))))))))))))))) [some (.val (.lst (ns.map .int))), some (.val (.ref k)), some (.val d), a3, a4] S = .nx [some (.val (.lst (ns.map .int))), some (.val (.ref k)), some (.val d), some (.val (.lst baseL)), a4] S := fun d => rfl
  have fin : ∀ (L : List D), 0 < L.length → (∀ x ∈ L, Good (n + 2) x) → ∃ (d' : D) (T' : List Int) (ε' : EV), sRet (eCall (f_Lpick cs) (aCons (eVar 0) (aCons (eVar 1) (aCons (eVar 3) aNil)))) [some (.val (.lst (ns.map .int))), some (.val (.ref k)), some (.val d), some (.val (.lst L)), a4] S = .rt d' ε' (S.set k (.lst (T'.map .int))) ∧ Good (n + 2) d' ∧ T'.length ≤ T.length + 2 := fun L hL hg => by
    obtain ⟨x, T', e, hm, hl⟩ := pickD_spec cs ns T S k hL h hT hns
    exact ⟨x, T', _, sRet_ok (eCall_ok (ds := [.lst (ns.map .int), .ref k, .lst L]) rfl e), hg x hm, hl⟩
  have gb : ∀ x ∈ baseL, Good (n + 2) x := fun x hx => by rw [Nat.add_comm]; exact (base_good x hx).upTo n
  cases d with
  | int i =>
    have r : 0 ≤ i ∧ i ≤ 9 := by cases n <;> exact hd
    have s := small_str i r.1 r.2
    simp only [Bool.and_eq_true, decide_eq_true_eq] at s
    obtain ⟨d', T', ε', e, g, l⟩ := fin (baseL ++ (intL i ++ intL i)) (by simp [baseL]) (fun x hx => by
      rcases List.mem_append.mp hx with z | z
      · exact gb x z
      · rw [Nat.add_comm]
        refine Good.upTo (int_good r.1 r.2 x ?_) n
        rcases List.mem_append.mp z with y | y <;> exact y)
    refine ⟨d', T', ε', sSeq_nx (s1 _) (sSeq_nx (sIf_f rfl (r := .nx _ _) rfl) (sSeq_nx (sIf_t rfl ?_) e)), g, l⟩
    have st : eCallP dStr1 (aCons (eVar 2) aNil) [some (.val (.lst (ns.map .int))), some (.val (.ref k)), some (.val (.int i)), some (.val (.lst baseL)), a4] S = .ok (.str (toString i)) [some (.val (.lst (ns.map .int))), some (.val (.ref k)), some (.val (.int i)), some (.val (.lst baseL)), a4] S :=
      eCallP_ok (ds := [.int i]) rfl (by show (if i.natAbs.log2 < 1920 then some (D.str (toString i)) else none) = _; rw [if_pos s.1])
    have li : eFrz (eLst (aCons (eOpP dAdd (eVar 2) (eCst (.int 1))) (aCons (eOpP dSub (eVar 2) (eCst (.int 1))) (aCons (eNotT (eVar 2)) (aCons (eTup (aCons (eVar 2) aNil)) (aCons (eCallP dStr1 (aCons (eVar 2) aNil)) aNil)))))) [some (.val (.lst (ns.map .int))), some (.val (.ref k)), some (.val (.int i)), some (.val (.lst baseL)), a4] S = .ok (.lst (intL i)) [some (.val (.lst (ns.map .int))), some (.val (.ref k)), some (.val (.int i)), some (.val (.lst baseL)), a4] S :=
      eFrz_ok (m := .lst (intL i)) (eLst_ok (aCons_ok (x := .int (i + 1)) rfl (aCons_ok (x := .int (i - 1)) rfl (aCons_ok (x := .bl (!(i != 0))) rfl (aCons_ok (x := .tup [.int i]) rfl (aCons_ok st (g := aNil) rfl))))))
    have mu : dMul (.lst (intL i)) (.int 2) = some (.lst (intL i ++ intL i)) := by
      show (if (decide (-9223372036854775808 ≤ (2 : Int)) && decide ((2 : Int) < 9223372036854775808) && decide ((intL i).length * (2 : Int).toNat ≤ sizeLine)) = true then some (D.lst (List.replicate (2 : Int).toNat (intL i)).flatten) else none) = _
      rw [if_pos (by simp only [Bool.and_eq_true, decide_eq_true_eq]; refine ⟨⟨by omega, by omega⟩, ?_⟩; show 5 * 2 ≤ _; omega)]
      simp
    have ad : dAdd (.lst baseL) (.lst (intL i ++ intL i)) = some (.lst (baseL ++ (intL i ++ intL i))) := dAdd_lst (by simp [baseL, intL]; omega)
    exact (sSet_ok (eOpP_ok (x := .lst baseL) rfl (eOpP_ok li (fb := eCst (.int 2)) (y := .int 2) rfl mu) ad)).trans rfl
  | str x =>
    obtain ⟨d', T', ε', e, g, l⟩ := fin baseL (by simp [baseL]) gb
    exact ⟨d', T', ε', sSeq_nx (s1 _) (sSeq_nx (sIf_f rfl (r := .nx _ _) rfl) (sSeq_nx (sIf_f rfl (r := .nx _ _) rfl) e)), g, l⟩
  | tup ds =>
    cases n with
    | zero => exact hd.elim
    | succ n =>
      have hl := hd.1
      have tg := tup_good hl fun d hm => (hd.2 d hm).good
      obtain ⟨d', T', ε', e, g, l⟩ := fin (baseL ++ tupL ds) (by simp [baseL]) (fun x hx => by
        rcases List.mem_append.mp hx with z | z
        · exact gb x z
        · exact (tg x z).upTo 2)
      refine ⟨d', T', ε', sSeq_nx (s1 _) (sSeq_nx (sIf_t rfl ?_) (sSeq_nx (sIf_f (ε := [some (.val (.lst (ns.map .int))), some (.val (.ref k)), some (.val (.tup ds)), some (.val (.lst (baseL ++ tupL ds))), a4]) (S := S) rfl (r := .nx _ _) rfl) e)), g, l⟩
      have c2 := @cut_len _ ds (some (-1)) none
      have a1 : dAdd (.tup ds) (.tup (dCut ds (some (-1)) none)) = some (.tup (ds ++ dCut ds (some (-1)) none)) := by
        show (if ds.length + _ ≤ sizeLine then _ else _) = _
        rw [if_pos (by omega)]
      have a2 : dAdd (.tup ds) (.tup [.non]) = some (.tup (ds ++ [.non])) := by
        show (if ds.length + _ ≤ sizeLine then _ else _) = _
        rw [if_pos (by simp; omega)]
      have li : eFrz (eLst (aCons (eCallP dLstOf (aCons (eVar 2) aNil)) (aCons (eSl (eVar 2) pNoP (pPt (pUn dNeg (pCst (.int 1))))) (aCons (eOpP dAdd (eVar 2) (eSl (eVar 2) (pPt (pUn dNeg (pCst (.int 1)))) pNoP)) (aCons (eSl (eVar 2) (pPt (pCst (.int 1))) pNoP) (aCons (eRev (eVar 2)) (aCons (eOpP dAdd (eVar 2) (eTup (aCons (eCst (.non)) aNil))) aNil))))))) [some (.val (.lst (ns.map .int))), some (.val (.ref k)), some (.val (.tup ds)), some (.val (.lst baseL)), a4] S = .ok (.lst (tupL ds)) [some (.val (.lst (ns.map .int))), some (.val (.ref k)), some (.val (.tup ds)), some (.val (.lst baseL)), a4] S :=
        eFrz_ok (m := .lst (tupL ds)) (eLst_ok (aCons_ok (x := .lst ds) rfl (aCons_ok (x := .tup (dCut ds none (some (-1)))) rfl (aCons_ok (eOpP_ok (x := .tup ds) (y := .tup (dCut ds (some (-1)) none)) rfl rfl a1) (aCons_ok (x := .tup (dCut ds (some 1) none)) rfl (aCons_ok (x := .tup ds.reverse) rfl (aCons_ok (eOpP_ok (x := .tup ds) (y := .tup [.non]) rfl rfl a2) (g := aNil) rfl)))))))
      have ad : dAdd (.lst baseL) (.lst (tupL ds)) = some (.lst (baseL ++ tupL ds)) := dAdd_lst (by simp [baseL, tupL]; omega)
      exact (sSet_ok (eOpP_ok (x := .lst baseL) rfl li ad)).trans rfl
  | _ => cases n <;> exact hd.elim
theorem bent_spec (cs : Cs) (ns : List Int) (k : Nat) (hns : ns.length ≤ 63) : ∀ (n m : Nat) (d : D) (T : List Int) (S : Sto), Raw n d → n < m → S[k]? = some (.lst (T.map .int)) → T.length + 6 * (n + 1) + 10 < sizeLine →
    ∃ (d' : D) (T' : List Int), fn_Lbent cs m [.lst (ns.map .int), .ref k, d] S = .ok d' (S.set k (.lst (T'.map .int))) ∧ Good (n + 2) d' ∧ T'.length ≤ T.length + 6 * (n + 1)
  | n, 0, d, T, S, _, hm, _, _ => by omega
  | n, m + 1, d, T, S, hd, hm, h, hT => by
    have hk : k < S.length := (List.getElem?_eq_some_iff.mp h).1
    have big := big60
    have leave : ∀ (T1 : List Int) (S1 : Sto) (ε1 : EV), ε1 = [some (.val (.lst (ns.map .int))), some (.val (.ref k)), some (.val d), none, none] → S1 = S.set k (.lst (T1.map .int)) → T1.length ≤ T.length + 2 →
        tOrE (ePT (pNot (pTru (pIs "tuple" (pVar 2))))) (tOrE (ePT (pNot (pTru (pVar 2)))) (tOf (eOpP dEq (eCall (f_Ldraw cs) (aCons (eVar 0) (aCons (eVar 1) (aCons (eCst (.int 4)) aNil)))) (eCst (.int 0))))) (startE N_Lbent.length [.lst (ns.map .int), .ref k, d]) S = .ok true ε1 S1 →
        ∃ (d' : D) (T' : List Int), fn_Lbent cs (m + 1) [.lst (ns.map .int), .ref k, d] S = .ok d' (S.set k (.lst (T'.map .int))) ∧ Good (n + 2) d' ∧ T'.length ≤ T.length + 6 * (n + 1) := fun T1 S1 ε1 e1 e2 hl ht => by
      subst e1; subst e2
      obtain ⟨d', T', ε', e, g, l⟩ := bentA_spec cs ns T1 (S.set k (.lst (T1.map .int))) k none none hd (set_at hk) (by omega) hns
      rw [List.set_set] at e
      exact ⟨d', T', semOf_rt (b := b_Lbent cs (fn_Lbent cs m)) (sSeq_rt (sIf_t ht e)), g, by omega⟩
    cases d with
    | int i => exact leave T S _ rfl (set_self h).symm (by omega) rfl
    | str x => exact leave T S _ rfl (set_self h).symm (by omega) rfl
    | tup ds =>
      cases n with
      | zero => exact hd.elim
      | succ n =>
        cases ds with
        | nil => exact leave T S _ rfl (set_self h).symm (by omega) rfl
        | cons y l =>
          obtain ⟨r, T1, e1, b1, b2, b3⟩ := draw_spec cs ns T S k 4 h (by omega) (by decide) hns
          have h1 : (S.set k (.lst (T1.map .int)))[k]? = some (.lst (T1.map .int)) := set_at hk
          have dr : eCall (f_Ldraw cs) (aCons (eVar 0) (aCons (eVar 1) (aCons (eCst (.int 4)) aNil))) (startE N_Lbent.length [.lst (ns.map .int), .ref k, .tup (y :: l)]) S = .ok (.int r) (startE N_Lbent.length [.lst (ns.map .int), .ref k, .tup (y :: l)]) (S.set k (.lst (T1.map .int))) := eCall_ok (ds := [.lst (ns.map .int), .ref k, .int 4]) rfl e1
          have t3 := tOf_ok (b := r == 0) (eOpP_ok (op := dEq) dr (fb := eCst (.int 0)) (y := .int 0) rfl rfl)
          cases hr : r == 0 with
          | true =>
            rw [hr] at t3
            exact leave T1 _ _ rfl rfl (by omega) (tOrE_f rfl (tOrE_f rfl t3))
          | false =>
            rw [hr] at t3
            obtain ⟨j, T2, e2, c1, c2, c3⟩ := draw_spec cs ns T1 _ k ((y :: l).length : Nat) h1 (by omega) (by simp only [List.length_cons]; omega) hns
            rw [List.set_set] at e2
            obtain ⟨i, ei⟩ : ∃ i : Nat, j = (i : Int) := ⟨j.toNat, by omega⟩
            subst ei
            have hi : i < (y :: l).length := by omega
            have hit := List.getElem?_eq_getElem hi
            generalize (y :: l)[i] = z at hit
            have zm : z ∈ y :: l := List.mem_of_getElem? hit
            obtain ⟨z', T3, e3, g3, l3⟩ := bent_spec cs ns k hns n m z T2 (S.set k (.lst (T2.map .int))) (hd.2 z zm) (by omega) (set_at hk) (by omega)
            rw [List.set_set] at e3
            have len := hd.1
            have cond : tOrE (ePT (pNot (pTru (pIs "tuple" (pVar 2))))) (tOrE (ePT (pNot (pTru (pVar 2)))) (tOf (eOpP dEq (eCall (f_Ldraw cs) (aCons (eVar 0) (aCons (eVar 1) (aCons (eCst (.int 4)) aNil)))) (eCst (.int 0))))) (startE N_Lbent.length [.lst (ns.map .int), .ref k, .tup (y :: l)]) S = .ok false (startE N_Lbent.length [.lst (ns.map .int), .ref k, .tup (y :: l)]) (S.set k (.lst (T1.map .int))) := tOrE_f rfl (tOrE_f rfl t3)
            have s2 : sSet 4 (eCall (f_Ldraw cs) (aCons (eVar 0) (aCons (eVar 1) (aCons (eCallP dLen (aCons (eVar 2) aNil)) aNil)))) (startE N_Lbent.length [.lst (ns.map .int), .ref k, .tup (y :: l)]) (S.set k (.lst (T1.map .int))) = .nx [some (.val (.lst (ns.map .int))), some (.val (.ref k)), some (.val (.tup (y :: l))), none, some (.val (.int i))] (S.set k (.lst (T2.map .int))) :=
              (sSet_ok (eCall_ok (ds := [.lst (ns.map .int), .ref k, .int ((y :: l).length : Nat)]) rfl e2)).trans rfl
            have sl1 : eSl (eVar 2) pNoP (pPt (pVar 4)) [some (.val (.lst (ns.map .int))), some (.val (.ref k)), some (.val (.tup (y :: l))), none, some (.val (.int i))] (S.set k (.lst (T2.map .int))) = .ok (.tup (dCut (y :: l) none (some (i : Int)))) [some (.val (.lst (ns.map .int))), some (.val (.ref k)), some (.val (.tup (y :: l))), none, some (.val (.int i))] (S.set k (.lst (T2.map .int))) := rfl
            have mid : eTup (aCons (eCall (fn_Lbent cs m) (aCons (eVar 0) (aCons (eVar 1) (aCons (eOpP dIdx (eVar 2) (eVar 4)) aNil)))) aNil) [some (.val (.lst (ns.map .int))), some (.val (.ref k)), some (.val (.tup (y :: l))), none, some (.val (.int i))] (S.set k (.lst (T2.map .int))) = .ok (.tup [z']) [some (.val (.lst (ns.map .int))), some (.val (.ref k)), some (.val (.tup (y :: l))), none, some (.val (.int i))] (S.set k (.lst (T3.map .int))) := by
              have ix : eOpP dIdx (eVar 2) (eVar 4) [some (.val (.lst (ns.map .int))), some (.val (.ref k)), some (.val (.tup (y :: l))), none, some (.val (.int i))] (S.set k (.lst (T2.map .int))) = .ok z [some (.val (.lst (ns.map .int))), some (.val (.ref k)), some (.val (.tup (y :: l))), none, some (.val (.int i))] (S.set k (.lst (T2.map .int))) :=
                eOpP_ok (x := .tup (y :: l)) (y := .int i) rfl rfl (dIdx_tup (Int.natCast_nonneg i) (by rw [Int.toNat_natCast]; exact hit))
              exact eTup_ok (aCons_ok (eCall_ok (aCons_ok rfl (aCons_ok rfl (aCons_ok ix (g := aNil) rfl))) e3) (g := aNil) rfl)
            have sl2 : eSl (eVar 2) (pPt (pOp dAdd (pVar 4) (pCst (.int 1)))) pNoP [some (.val (.lst (ns.map .int))), some (.val (.ref k)), some (.val (.tup (y :: l))), none, some (.val (.int i))] (S.set k (.lst (T3.map .int))) = .ok (.tup (dCut (y :: l) (some ((i : Int) + 1)) none)) [some (.val (.lst (ns.map .int))), some (.val (.ref k)), some (.val (.tup (y :: l))), none, some (.val (.int i))] (S.set k (.lst (T3.map .int))) := rfl
            have q1 := @cut_len _ (y :: l) none (some (i : Int))
            have q2 := @cut_len _ (y :: l) (some ((i : Int) + 1)) none
            have a1 : dAdd (.tup (dCut (y :: l) none (some (i : Int)))) (.tup [z']) = some (.tup (dCut (y :: l) none (some (i : Int)) ++ [z'])) := by
              show (if (dCut (y :: l) none (some (i : Int))).length + [z'].length ≤ sizeLine then _ else _) = _
              rw [if_pos (by simp only [List.length_singleton]; omega)]
            have a2 : dAdd (.tup (dCut (y :: l) none (some (i : Int)) ++ [z'])) (.tup (dCut (y :: l) (some ((i : Int) + 1)) none)) = some (.tup ((dCut (y :: l) none (some (i : Int)) ++ [z']) ++ dCut (y :: l) (some ((i : Int) + 1)) none)) := by
              show (if (dCut (y :: l) none (some (i : Int)) ++ [z']).length + (dCut (y :: l) (some ((i : Int) + 1)) none).length ≤ sizeLine then _ else _) = _
              rw [if_pos (by rw [List.length_append, List.length_singleton]; omega)]
            refine ⟨_, T3, semOf_rt (b := b_Lbent cs (fn_Lbent cs m)) (sSeq_nx (sIf_f cond (r := .nx _ _) rfl) (sSeq_nx s2 (sRet_ok (eOpP_ok (eOpP_ok sl1 mid a1) sl2 a2)))), ⟨?_, fun x hx => ?_⟩, by omega⟩
            · rw [List.length_append, List.length_append, List.length_singleton]; omega
            · rcases List.mem_append.mp hx with w | w
              · rcases List.mem_append.mp w with w | w
                · exact ((hd.2 x (cut_mem w)).good).upTo 2
                · rw [List.mem_singleton.mp w]; exact g3
              · exact ((hd.2 x (cut_mem w)).good).upTo 2
    | _ => cases n <;> exact hd.elim
end LW
namespace LW
open DL L2 PyProof.Rows PySem PySem.Spec
variable [TabT]
/-! ### drawn books -/
abbrev Tab := Str × Nat × List (List Int)
def tabD (t : Tab) : D := .tup [.str t.1, .int (t.2.1 : Nat), .tup (t.2.2.map rowD)]
def TabOk (most : Nat) (far : Int) (t : Tab) : Prop := 1 ≤ t.2.1 ∧ t.2.1 ≤ 3 ∧ (∀ r ∈ t.2.2, RowOk t.2.1 far r) ∧ t.2.2.length ≤ most ∧ t.2.2.Nodup ∧ SrtO.Srtd dlt (t.2.2.map rowD)
def words4 : List Str := ["p", "q", "r", "s"]
def bE (ns : List Int) (most : Nat) (far : Int) (a4 a5 a6 : Option SV) : EV := [some (.val (.lst (ns.map .int))), some (.val (.ref 0)), some (.val (.int (most : Nat))), some (.val (.int far)), a4, a5, a6]
theorem book_spec (cs : Cs) (ns T : List Int) (S : Sto) (most : Nat) (far : Int) (h : S[0]? = some (.lst (T.map .int))) (hT : T.length + 100 + 30 * most < sizeLine) (hf : 0 < far) (hm : most ≤ 100) (hns : ns.length ≤ 63) :
    ∃ (tabs : List Tab) (T' : List Int), f_Ldrawn_book cs [.lst (ns.map .int), .ref 0, .int (most : Nat), .int far] S = .ok (.tup (tabs.map tabD)) (S.set 0 (.lst (T'.map .int))) ∧ (∀ t ∈ tabs, TabOk most far t) ∧
      (tabs.map (·.1) = words4 ∨ tabs.map (·.1) = words4.drop 1) ∧ T'.length ≤ T.length + 100 + 30 * most := by
  have hn : 0 < S.length := (List.getElem?_eq_some_iff.mp h).1
  have big : (60 : Nat) ≤ sizeLine := by decide
  have loop := for_inv (g := gVar 5) (b := (sSeq (sSet 6 (eCall (f_Lpick cs) (aCons (eVar 0) (aCons (eVar 1) (aCons (eFrz (eLst (aCons (eCst (.int 1)) (aCons (eCst (.int 2)) (aCons (eCst (.int 2)) (aCons (eCst (.int 2)) (aCons (eCst (.int 3)) aNil))))))) aNil)))))
    (sExpr (eMut "list" (oSlot 4) mAppend (aCons (eTup (aCons (eVar 5) (aCons (eVar 6) (aCons (eCall (f_Ldrawn_rows cs) (aCons (eVar 0) (aCons (eVar 1) (aCons (eVar 6) (aCons (eVar 2) (aCons (eVar 3) aNil)))))) aNil)))) aNil)))))
    (fun j ε S' => ∃ (tabs : List Tab) (T' : List Int) (a5 a6 : Option SV), ε = bE ns most far (some (.own (.lst (tabs.map tabD)))) a5 a6 ∧ S' = S.set 0 (.lst (T'.map .int)) ∧ T'.length ≤ T.length + j * (4 + 6 * most) ∧ (∀ t ∈ tabs, TabOk most far t) ∧ tabs.map (·.1) = words4.take j)
    [.str "p", .str "q", .str "r", .str "s"] 0 (bE ns most far (some (.own (.lst []))) none none) S ⟨[], T, none, none, rfl, (set_self h).symm, by omega, fun t ht => by simp at ht, rfl⟩
    (by
      rintro j d ε S' hd ⟨tabs, T', a5, a6, rfl, rfl, l1, l2, l3⟩
      have hj : j < 4 := (List.getElem?_eq_some_iff.mp hd).1
      obtain ⟨w, ew, hw⟩ : ∃ w, words4[j]? = some w ∧ d = .str w := by
        have : [D.str "p", .str "q", .str "r", .str "s"] = words4.map D.str := rfl
        rw [this, List.getElem?_map] at hd
        cases hh : words4[j]? with
        | none => rw [hh] at hd; cases hd
        | some w => rw [hh] at hd; cases hd; exact ⟨w, rfl, rfl⟩
      subst hw
      have lj : (0 + j) * (4 + 6 * most) ≤ 4 * (4 + 6 * most) := Nat.mul_le_mul_right _ (by omega)
      obtain ⟨kd, T1, e1, k1, k2⟩ := pickD_spec cs ns T' (S.set 0 (.lst (T'.map .int))) 0 (ds := [.int 1, .int 2, .int 2, .int 2, .int 3]) (by simp) (set_at hn) (by omega) hns
      rw [List.set_set] at e1
      obtain ⟨k, ek, kb⟩ : ∃ k : Nat, kd = .int (k : Nat) ∧ 1 ≤ k ∧ k ≤ 3 := by
        simp only [List.mem_cons, List.not_mem_nil, or_false] at k1
        rcases k1 with e | e | e | e | e
        · exact ⟨1, e, by omega⟩
        · exact ⟨2, e, by omega⟩
        · exact ⟨2, e, by omega⟩
        · exact ⟨2, e, by omega⟩
        · exact ⟨3, e, by omega⟩
      subst ek
      have km : most * (2 * k) ≤ most * 6 := Nat.mul_le_mul_left _ (by omega)
      obtain ⟨rs, T2, e2, r1, r2, r3, r4, r5⟩ := rows_spec cs ns T1 (S.set 0 (.lst (T1.map .int))) 0 k most far (set_at hn) (by omega) hf (by omega) (by omega) (by omega) hns
      rw [List.set_set] at e2
      refine ⟨_, _, rfl, bE ns most far (some (.own (.lst ((tabs ++ [(w, k, rs)]).map tabD)))) (some (.val (.str w))) (some (.val (.int (k : Nat)))), S.set 0 (.lst (T2.map .int)), .inl ?_, tabs ++ [(w, k, rs)], T2, _, _, rfl, rfl, ?_, fun t ht => ?_, ?_⟩
      · have s1 : sSet 6 (eCall (f_Lpick cs) (aCons (eVar 0) (aCons (eVar 1) (aCons (eFrz (eLst (aCons (eCst (.int 1)) (aCons (eCst (.int 2)) (aCons (eCst (.int 2)) (aCons (eCst (.int 2)) (aCons (eCst (.int 3)) aNil))))))) aNil)))) (bE ns most far (some (.own (.lst (tabs.map tabD)))) (some (.val (.str w))) a6) (S.set 0 (.lst (T'.map .int))) = .nx (bE ns most far (some (.own (.lst (tabs.map tabD)))) (some (.val (.str w))) (some (.val (.int (k : Nat))))) (S.set 0 (.lst (T1.map .int))) :=
          (sSet_ok (eCall_ok (ds := [.lst (ns.map .int), .ref 0, .lst [.int 1, .int 2, .int 2, .int 2, .int 3]]) rfl e1)).trans rfl
        refine sSeq_nx s1 ?_
        have g4 : getM (.slot 4) (bE ns most far (some (.own (.lst (tabs.map tabD)))) (some (.val (.str w))) (some (.val (.int (k : Nat))))) (S.set 0 (.lst (T1.map .int))) = some (.lst (tabs.map tabD)) := rfl
        have g4' : getM (.slot 4) (bE ns most far (some (.own (.lst (tabs.map tabD)))) (some (.val (.str w))) (some (.val (.int (k : Nat))))) (S.set 0 (.lst (T2.map .int))) = some (.lst (tabs.map tabD)) := rfl
        have cr : eCall (f_Ldrawn_rows cs) (aCons (eVar 0) (aCons (eVar 1) (aCons (eVar 6) (aCons (eVar 2) (aCons (eVar 3) aNil))))) (bE ns most far (some (.own (.lst (tabs.map tabD)))) (some (.val (.str w))) (some (.val (.int (k : Nat))))) (S.set 0 (.lst (T1.map .int))) = .ok (.tup (rs.map rowD)) (bE ns most far (some (.own (.lst (tabs.map tabD)))) (some (.val (.str w))) (some (.val (.int (k : Nat))))) (S.set 0 (.lst (T2.map .int))) :=
          eCall_ok (ds := [.lst (ns.map .int), .ref 0, .int (k : Nat), .int (most : Nat), .int far]) rfl e2
        have tu : aCons (eTup (aCons (eVar 5) (aCons (eVar 6) (aCons (eCall (f_Ldrawn_rows cs) (aCons (eVar 0) (aCons (eVar 1) (aCons (eVar 6) (aCons (eVar 2) (aCons (eVar 3) aNil)))))) aNil)))) aNil (bE ns most far (some (.own (.lst (tabs.map tabD)))) (some (.val (.str w))) (some (.val (.int (k : Nat))))) (S.set 0 (.lst (T1.map .int))) = .ok [tabD (w, k, rs)] (bE ns most far (some (.own (.lst (tabs.map tabD)))) (some (.val (.str w))) (some (.val (.int (k : Nat))))) (S.set 0 (.lst (T2.map .int))) :=
          aCons_ok (eTup_ok (aCons_ok rfl (aCons_ok rfl (aCons_ok cr (g := aNil) rfl)))) (g := aNil) rfl
        refine (sExpr_ok (eMut_ok (m' := .lst ((tabs ++ [(w, k, rs)]).map tabD)) (d := .non) (oSlot_ok g4) g4 rfl tu g4' ?_)).trans rfl
        have tl : tabs.length ≤ 4 := by
          have := congrArg List.length l3
          rw [List.length_map, List.length_take] at this
          show tabs.length ≤ 4
          have e4 : words4.length = 4 := rfl
          omega
        rw [mAppend_lt (by rw [List.length_map]; omega), List.map_append]
        rfl
      · have : (0 + j + 1) * (4 + 6 * most) = (0 + j) * (4 + 6 * most) + (4 + 6 * most) := by rw [Nat.succ_mul]
        omega
      · rcases List.mem_append.mp ht with z | z
        · exact l2 t z
        · rw [List.mem_singleton.mp z]; exact ⟨kb.1, kb.2, r1, r2, r3, r4⟩
      · rw [List.map_append, l3, List.take_add_one, show words4[0 + j]? = some w by rw [Nat.zero_add]; exact ew]
        rfl)
  obtain ⟨ε', S', run, tabs, T', a5, a6, rfl, rfl, l1, l2, l3⟩ := loop
  have l1 : T'.length ≤ T.length + 4 * (4 + 6 * most) := by
    simpa using l1
  obtain ⟨r, T2, e2, b1, b2, b3⟩ := draw_spec cs ns T' (S.set 0 (.lst (T'.map .int))) 0 2 (set_at hn) (by omega) (by decide) hns
  rw [List.set_set] at e2
  have l3 : tabs.map (·.1) = words4 := l3
  have dr : oPt (eCall (f_Ldraw cs) (aCons (eVar 0) (aCons (eVar 1) (aCons (eCst (.int 2)) aNil)))) (bE ns most far (some (.val (.lst (tabs.map tabD)))) a5 a6) (S.set 0 (.lst (T'.map .int))) = .ok (some r) (bE ns most far (some (.val (.lst (tabs.map tabD)))) a5 a6) (S.set 0 (.lst (T2.map .int))) := oPt_ok (eCall_ok (ds := [.lst (ns.map .int), .ref 0, .int 2]) rfl e2)
  have ev4 : eVar 4 (bE ns most far (some (.own (.lst (tabs.map tabD)))) a5 a6) (S.set 0 (.lst (T'.map .int))) = .ok (.lst (tabs.map tabD)) (bE ns most far (some (.val (.lst (tabs.map tabD)))) a5 a6) (S.set 0 (.lst (T'.map .int))) := rfl
  have fin : ∀ (u : List Tab), dCut (tabs.map tabD) (some r) none = u.map tabD → (∀ t ∈ u, TabOk most far t) → (u.map (·.1) = words4 ∨ u.map (·.1) = words4.drop 1) →
      ∃ (tabs : List Tab) (T' : List Int), f_Ldrawn_book cs [.lst (ns.map .int), .ref 0, .int (most : Nat), .int far] S = .ok (.tup (tabs.map tabD)) (S.set 0 (.lst (T'.map .int))) ∧ (∀ t ∈ tabs, TabOk most far t) ∧ (tabs.map (·.1) = words4 ∨ tabs.map (·.1) = words4.drop 1) ∧ T'.length ≤ T.length + 100 + 30 * most := fun u hu h1 h2 => by
    have sl := eSlE_ok (fh := oNo) ev4 dr rfl (show dSl (.lst (tabs.map tabD)) (some r) none = some (.lst (u.map tabD)) by show some (D.lst _) = _; rw [hu])
    exact ⟨u, T2, semOf_rt (sSeq_nx (sOwn_ok (f := eLst aNil) (m := .lst []) (eLst_ok rfl)) (sSeq_nx (sFor_ok (iSeq_ok (x := .tup [.str "p", .str "q", .str "r", .str "s"]) rfl rfl) run) (sRet_ok (eCallP_ok (ds := [.lst (u.map tabD)]) (aCons_ok sl (g := aNil) rfl) rfl)))), h1, h2, by omega⟩
  have cut : dCut (tabs.map tabD) (some r) none = (tabs.drop r.toNat).map tabD := by
    have e : r = ((r.toNat : Nat) : Int) := by omega
    have tl : tabs.length = 4 := by
      have := congrArg List.length l3
      rw [List.length_map] at this
      exact this
    unfold dCut
    rw [e, HT.sIx_nat, HT.sIx_none, Int.toNat_natCast, show min r.toNat (tabs.map tabD).length = r.toNat by rw [List.length_map]; omega, List.take_of_length_le (by rw [List.length_drop]; exact Nat.le_refl _), List.map_drop]
  refine fin _ cut (fun t ht => l2 t (List.mem_of_mem_drop ht)) ?_
  have hr : r.toNat = 0 ∨ r.toNat = 1 := by omega
  rcases hr with e | e
  · rw [e]; exact .inl l3
  · rw [e, List.map_drop, l3]; exact .inr rfl
theorem strOk_words : ∀ w ∈ words4, w.length ≤ 60 ∧ PyData.strOk w = true := by
  intro w hw
  simp only [words4, List.mem_cons, List.not_mem_nil, or_false] at hw
  rcases hw with e | e | e | e <;> subst e <;> exact ⟨by decide +kernel, by decide +kernel⟩
end LW
namespace LW
open DL L2 PyProof.Rows PySem PySem.Spec
variable [TabT]
/-! ### is_book -/
theorem pair_comp {f : ES D} {a : Option SV} {B : D × D → Bool} {S : Sto} : ∀ (ps : List (D × D)), (∀ p ∈ ps, f [a, some (.val p.1), some (.val p.2)] S = .ok (.bl (B p)) [a, some (.val p.1), some (.val p.2)] S) →
    lcL (gSeqD 2 (ggCons (gVar 1) (ggCons (gVar 2) ggNil))) tYesD f [1, 2] (ps.map fun p => .tup [p.1, p.2]) [a, none, none] S = .ok (ps.map fun p => .bl (B p)) [a, none, none] S
  | [], _ => rfl
  | p :: ps, h => by
    have ih := pair_comp (f := f) (a := a) (B := B) (S := S) ps fun x hx => h x (List.mem_cons_of_mem _ hx)
    have e := h p List.mem_cons_self
    rw [List.map_cons]
    unfold lcL
    rw [show gSeqD 2 (ggCons (gVar 1) (ggCons (gVar 2) ggNil)) (.tup [p.1, p.2]) [a, none, none] S = .ok () [a, some (.val p.1), some (.val p.2)] S from gSeq_tup rfl (ggCons_ok rfl (ggCons_ok rfl rfl))]
    dsimp only [R.bind, tYesD]
    rw [if_pos rfl, e]
    dsimp only
    rw [show wipeE [a, some (.val p.1), some (.val p.2)] [1, 2] = [a, none, none] from rfl, ih]
    rfl
theorem dAll_pairs (B : D × D → Bool) (ps : List (D × D)) : dAll [.lst (ps.map fun p => D.bl (B p))] = some (.bl (ps.all B)) := by
  have h : boolsOf (ps.map fun p => D.bl (B p)) = some (ps.map B) := by
    induction ps with
    | nil => rfl
    | cons p ps ih =>
      show (boolsOf (ps.map fun p => D.bl (B p))).map (B p :: ·) = _
      rw [ih]; rfl
  show (boolsOf (ps.map fun p => D.bl (B p))).map (fun bs => D.bl (bs.all id)) = _
  rw [h]
  show some (D.bl ((ps.map B).all id)) = _
  rw [List.all_map]; rfl
theorem are_rising_spec (cs : Cs) {x y : D} {ds : List D} (hy : dSl x (some 1) none = some y) (hz : zipD [x, y] = some (ds.zip (ds.drop 1))) (h : ∀ a ∈ ds, ∀ b ∈ ds, dLtT a b = some (.bl (dlt a b))) (S : Sto) :
    f_are_rising cs [x] S = .ok (.bl (riseD ds)) S := by
  have z : iZipD (aCons (eVar 0) (aCons (eSl (eVar 0) (pPt (pCst (.int 1))) pNoP) aNil)) [some (.val x), none, none] S = .ok ((ds.zip (ds.drop 1)).map fun p => .tup [p.1, p.2]) [some (.val x), none, none] S :=
    iZip_ok (aCons_ok (x := x) rfl (aCons_ok (eSl_ok (x := x) (l := some 1) (u := none) rfl rfl rfl hy) (g := aNil) rfl)) hz
  have c := eComp_ok (g := gSeqD 2 (ggCons (gVar 1) (ggCons (gVar 2) ggNil))) (t := tYesD) (f := eOpP dLtT (eVar 1) (eVar 2)) (vs := [1, 2]) z (pair_comp (a := some (.val x)) (B := fun p => dlt p.1 p.2) (S := S) (ds.zip (ds.drop 1)) fun p hp => by
    have m := List.of_mem_zip hp
    exact eOpP_ok rfl rfl (h p.1 m.1 p.2 (List.mem_of_mem_drop m.2)))
  have r := eCallP_ok (op := dAll) (aCons_ok (eFrz_ok c) (g := aNil) rfl) (dAll_pairs (fun p => dlt p.1 p.2) _)
  rw [rise_zip] at r
  exact semOf_rt (sRet_ok r)
theorem cut1 (ds : List D) : dCut ds (some 1) none = ds.drop 1 := by
  unfold dCut
  rw [show (some 1 : Option Int) = some ((1 : Nat) : Int) from rfl, HT.sIx_nat, HT.sIx_none]
  cases ds with
  | nil => rfl
  | cons d ds =>
    rw [show min 1 (d :: ds).length = 1 by simp]
    exact List.take_of_length_le (by rw [List.length_drop]; exact Nat.le_refl _)
theorem rising_rows (cs : Cs) (rs : List (List Int)) (S : Sto) : f_are_rising cs [.tup (rs.map rowD)] S = .ok (.bl (riseD (rs.map rowD))) S :=
  are_rising_spec cs (y := .tup ((rs.map rowD).drop 1)) (by show some (D.tup _) = _; rw [cut1]) rfl (fun a ha b hb => by
    obtain ⟨u, _, rfl⟩ := List.mem_map.mp ha
    obtain ⟨v, _, rfl⟩ := List.mem_map.mp hb
    exact ltT_rows u v) S
theorem rising_strs (cs : Cs) (ws : List Str) (S : Sto) : f_are_rising cs [.lst (ws.map D.str)] S = .ok (.bl (riseD (ws.map D.str))) S :=
  are_rising_spec cs (y := .lst ((ws.map D.str).drop 1)) (by show some (D.lst _) = _; rw [cut1]) rfl (fun a ha b hb => by
    obtain ⟨u, _, rfl⟩ := List.mem_map.mp ha
    obtain ⟨v, _, rfl⟩ := List.mem_map.mp hb
    exact ltT_strs u v) S
/-- a row of a width -/
def rowOkD (k : Int) : D → Bool
  | .tup xs => decide ((xs.length : Int) = k) && xs.all valueD
  | _ => false
theorem value_int {d : D} (h : valueD d = true) : ∃ i, d = .int i := by cases d <;> first | exact ⟨_, rfl⟩ | cases h
theorem values_ints : ∀ {xs : List D}, xs.all valueD = true → ∃ ns : List Int, xs = ns.map D.int
  | [], _ => ⟨[], rfl⟩
  | x :: xs, h => by
    rw [List.all_cons, Bool.and_eq_true] at h
    obtain ⟨i, rfl⟩ := value_int h.1
    obtain ⟨ns, rfl⟩ := values_ints h.2
    exact ⟨i :: ns, rfl⟩
theorem rows_of {k : Int} : ∀ {ds : List D}, ds.all (rowOkD k) = true → ∃ rs : List (List Int), ds = rs.map rowD ∧ ∀ r ∈ rs, (r.length : Int) = k
  | [], _ => ⟨[], rfl, fun r hr => by cases hr⟩
  | d :: ds, h => by
    rw [List.all_cons, Bool.and_eq_true] at h
    obtain ⟨rs, rfl, h2⟩ := rows_of h.2
    cases d with
    | tup xs =>
      have h1 : (decide ((xs.length : Int) = k) && xs.all valueD) = true := h.1
      rw [Bool.and_eq_true, decide_eq_true_eq] at h1
      obtain ⟨ns, rfl⟩ := values_ints h1.2
      rw [List.length_map] at h1
      refine ⟨ns :: rs, rfl, fun r hr => ?_⟩
      rcases List.mem_cons.mp hr with e | hr
      · rw [e]; exact h1.1
      · exact h2 r hr
    | _ => cases h.1
theorem is_row_spec (cs : Cs) {n : Nat} {d : D} {k : Int} (h : Good n d) (S : Sto) : f_is_row cs [d, .int k] S = .ok (.bl (rowOkD k d)) S := by
  cases d with
  | tup xs =>
    have hg := h.tup
    have c1 : eOpP dEq (eCallP dLen (aCons (eVar 0) aNil)) (eVar 1) (startE N_is_row.length [.tup xs, .int k]) S = .ok (.bl (decide ((xs.length : Int) = k))) (startE N_is_row.length [.tup xs, .int k]) S :=
      eOpP_ok (x := .int xs.length) (y := .int k) rfl rfl (by
        show some (D.bl ((xs.length : Int) == k)) = some (.bl (decide ((xs.length : Int) = k)))
        rfl)
    have c2 := all_comp (i := 2) (f := eCall (f_is_value cs) (aCons (eVar 2) aNil)) (B := valueD) (iSeq_ok (f := eVar 0) (x := .tup xs) (ε := startE N_is_row.length [.tup xs, .int k]) (S := S) rfl rfl) (fun d hd => eCall_ok (ds := [d]) rfl (is_value_spec cs (hg.2 d hd) S)) rfl
    exact semOf_rt (sRet_ok (eAndV_t rfl (eAndV_b c1 c2)))
  | ref k => exact absurd rfl (h.noRef.1 k)
  | dic t a b => exact absurd rfl (h.noRef.2 t a b)
  | _ => rfl
def isT3 : D → Bool
  | .tup ds => decide (ds.length = 3)
  | _ => false
def tabOkD : D → Bool
  | .tup [w, .int k, .tup rs] => nameD w && ((decide (1 ≤ k) && decide (k ≤ 5)) && (rs.all (rowOkD k) && riseD rs))
  | _ => false
def wordD : D → D
  | .tup (w :: _) => w
  | d => d
def bookD : D → Bool
  | .tup ts => ts.all tabOkD && riseD (ts.map wordD)
  | _ => false
theorem ok_isT3 {d : D} (h : tabOkD d = true) : isT3 d = true := by
  unfold tabOkD at h
  split at h
  · rfl
  · cases h
theorem t3_of {d : D} (h : isT3 d = true) : ∃ a b c, d = .tup [a, b, c] := by
  cases d with
  | tup ds =>
    have h' : decide (ds.length = 3) = true := h
    rw [decide_eq_true_eq] at h'
    match ds, h' with
    | [a, b, c], _ => exact ⟨a, b, c, rfl⟩
  | _ => cases h
theorem name_str {d : D} (h : nameD d = true) : ∃ x, d = .str x := by
  cases d <;> first | exact ⟨_, rfl⟩ | cases h
/-- what the loop of tables leaves -/
def lastT (a : Option SV) (a1 : Option SV) (q : List D) : EV := match q.getLast? with
  | some (.tup [x, y, z]) => [a, a1, some (.val x), some (.val y), some (.val z), none]
  | _ => [a, a1, none, none, none, none]
theorem lastT_is (a a1 : Option SV) (q : List D) : ∃ a2 a3 a4, lastT a a1 q = [a, a1, a2, a3, a4, none] := by
  unfold lastT
  split
  · exact ⟨_, _, _, rfl⟩
  · exact ⟨_, _, _, rfl⟩
theorem lastT_snoc (a a1 : Option SV) (q : List D) (x y z : D) : lastT a a1 (q ++ [.tup [x, y, z]]) = [a, a1, some (.val x), some (.val y), some (.val z), none] := by
  unfold lastT
  rw [List.getLast?_append]
  rfl
def tabB (cs : Cs) : SS := (sSeq (sIf (tOrE (tNotE (tTruE (eCall (f_is_name cs) (aCons (eVar 2) aNil)))) (tOrE (tNotE (tTruE (eCall (f_is_whole cs) (aCons (eVar 3) aNil)))) (tOrE (tNotE (tOf (eChain (fun x y ε S => R.opt (dLe x y) ε S) (fun x y ε S => R.opt (dLe x y) ε S) (eCst (.int 1)) (eVar 3) (eCst (.int 5))))) (ePT (pNot (pTru (pIs "tuple" (pVar 4)))))))) (sRet (eCst (.bl false))) sNil)
    (sIf (tOrE (tNotE (tTruE (eCallP dAll (aCons (eFrz (eComp (iSeq (eVar 4)) (gVar 5) tYesD (eCall (f_is_row cs) (aCons (eVar 5) (aCons (eVar 3) aNil))) [5])) aNil)))) (tNotE (tTruE (eCall (f_are_rising cs) (aCons (eVar 4) aNil))))) (sRet (eCst (.bl false))) sNil))
theorem tab_step (cs : Cs) {n : Nat} {a a1 : Option SV} {x y z : D} (h : Good n (.tup [x, y, z])) (S : Sto) :
    (tabOkD (.tup [x, y, z]) = true → tabB cs [a, a1, some (.val x), some (.val y), some (.val z), none] S = .nx [a, a1, some (.val x), some (.val y), some (.val z), none] S) ∧
    (tabOkD (.tup [x, y, z]) = false → ∃ ε2, tabB cs [a, a1, some (.val x), some (.val y), some (.val z), none] S = .rt (.bl false) ε2 S) := by
  have hg := h.tup
  have gx := hg.2 x (by simp)
  have gy := hg.2 y (by simp)
  have gz := hg.2 z (by simp)
  have nm := tTruE_ok (eCall_ok (F := f_is_name cs) (fa := aCons (eVar 2) aNil) (ε := [a, a1, some (.val x), some (.val y), some (.val z), none]) (S := S) (ds := [x]) rfl (is_name_spec cs gx S)) rfl
  have no : tabOkD (.tup [x, y, z]) = false → ∀ {ε2 : EV}, tOrE (tNotE (tTruE (eCall (f_is_name cs) (aCons (eVar 2) aNil)))) (tOrE (tNotE (tTruE (eCall (f_is_whole cs) (aCons (eVar 3) aNil)))) (tOrE (tNotE (tOf (eChain (fun x y ε S => R.opt (dLe x y) ε S) (fun x y ε S => R.opt (dLe x y) ε S) (eCst (.int 1)) (eVar 3) (eCst (.int 5))))) (ePT (pNot (pTru (pIs "tuple" (pVar 4))))))) [a, a1, some (.val x), some (.val y), some (.val z), none] S = .ok true ε2 S →
      (tabOkD (.tup [x, y, z]) = true → tabB cs [a, a1, some (.val x), some (.val y), some (.val z), none] S = .nx [a, a1, some (.val x), some (.val y), some (.val z), none] S) ∧
      (tabOkD (.tup [x, y, z]) = false → ∃ ε2, tabB cs [a, a1, some (.val x), some (.val y), some (.val z), none] S = .rt (.bl false) ε2 S) := fun e ε2 t =>
    ⟨fun e2 => (by rw [e] at e2; cases e2), fun _ => ⟨_, sSeq_rt (sIf_t t (sRet_ok rfl))⟩⟩
  cases hn : nameD x with
  | false =>
    rw [hn] at nm
    refine no ?_ (tOrE_t (tNotE_ok nm))
    unfold tabOkD
    split
    · rename_i e
      cases e
      rw [hn]; rfl
    · rfl
  | true =>
    rw [hn] at nm
    cases y with
    | int k =>
      have wh : tTruE (eCall (f_is_whole cs) (aCons (eVar 3) aNil)) [a, a1, some (.val x), some (.val (.int k)), some (.val z), none] S = .ok true [a, a1, some (.val x), some (.val (.int k)), some (.val z), none] S := tTruE_ok (x := .bl true) (eCall_ok (ds := [.int k]) rfl rfl) rfl
      have ch := tOf_ok (chain_b (o := dLe) (o' := dLe) (ε := [a, a1, some (.val x), some (.val (.int k)), some (.val z), none]) (S := S) (fa := eCst (.int 1)) (fb := eVar 3) (fc := eCst (.int 5)) (x := .int 1) (y := .int k) (z := .int 5) (p := decide (1 ≤ k)) (q := decide (k ≤ 5)) rfl rfl rfl rfl rfl)
      cases hk : (decide (1 ≤ k) && decide (k ≤ 5)) with
      | false =>
        rw [hk] at ch
        refine no ?_ (tOrE_f (tNotE_ok nm) (tOrE_f (tNotE_ok wh) (tOrE_t (tNotE_ok ch))))
        unfold tabOkD
        split
        · rename_i e
          cases e
          rw [hn, hk]; rfl
        · rfl
      | true =>
        rw [hk] at ch
        cases z with
        | tup rs =>
          have c1 : tOrE (tNotE (tTruE (eCall (f_is_name cs) (aCons (eVar 2) aNil)))) (tOrE (tNotE (tTruE (eCall (f_is_whole cs) (aCons (eVar 3) aNil)))) (tOrE (tNotE (tOf (eChain (fun x y ε S => R.opt (dLe x y) ε S) (fun x y ε S => R.opt (dLe x y) ε S) (eCst (.int 1)) (eVar 3) (eCst (.int 5))))) (ePT (pNot (pTru (pIs "tuple" (pVar 4))))))) [a, a1, some (.val x), some (.val (.int k)), some (.val (.tup rs)), none] S = .ok false [a, a1, some (.val x), some (.val (.int k)), some (.val (.tup rs)), none] S :=
            tOrE_f (tNotE_ok nm) (tOrE_f (tNotE_ok wh) (tOrE_f (tNotE_ok ch) rfl))
          have hr := gz.tup
          have c2 := tTruE_ok (all_comp (i := 5) (f := eCall (f_is_row cs) (aCons (eVar 5) (aCons (eVar 3) aNil))) (B := rowOkD k) (iSeq_ok (f := eVar 4) (x := .tup rs) (ε := [a, a1, some (.val x), some (.val (.int k)), some (.val (.tup rs)), none]) (S := S) rfl rfl) (fun d hd => eCall_ok (ds := [d, .int k]) rfl (is_row_spec cs (hr.2 d hd) S)) rfl) rfl
          have e : tabOkD (.tup [x, .int k, .tup rs]) = (rs.all (rowOkD k) && riseD rs) := by
            show (nameD x && ((decide (1 ≤ k) && decide (k ≤ 5)) && (rs.all (rowOkD k) && riseD rs))) = _
            rw [hn, hk]; rfl
          rw [e]
          cases ha : rs.all (rowOkD k) with
          | false =>
            rw [ha] at c2
            exact ⟨fun e => (by cases e), fun _ => ⟨_, sSeq_nx (sIf_f c1 (r := .nx _ _) rfl) (sIf_t (tOrE_t (tNotE_ok c2)) (sRet_ok rfl))⟩⟩
          | true =>
            rw [ha] at c2
            obtain ⟨rr, rfl, _⟩ := rows_of ha
            have c3 := tTruE_ok (eCall_ok (F := f_are_rising cs) (fa := aCons (eVar 4) aNil) (ε := [a, a1, some (.val x), some (.val (.int k)), some (.val (.tup (rr.map rowD))), none]) (S := S) (ds := [.tup (rr.map rowD)]) rfl (rising_rows cs rr S)) rfl
            cases hs : riseD (rr.map rowD) with
            | false =>
              rw [hs] at c3
              exact ⟨fun e => (by cases e), fun _ => ⟨_, sSeq_nx (sIf_f c1 (r := .nx _ _) rfl) (sIf_t (tOrE_f (tNotE_ok c2) (tNotE_ok c3)) (sRet_ok rfl))⟩⟩
            | true =>
              rw [hs] at c3
              exact ⟨fun _ => sSeq_nx (sIf_f c1 (r := .nx _ _) rfl) (sIf_f (tOrE_f (tNotE_ok c2) (tNotE_ok c3)) rfl), fun e => (by cases e)⟩
        | ref k => exact absurd rfl (gz.noRef.1 k)
        | dic t a b => exact absurd rfl (gz.noRef.2 t a b)
        | _ => exact no rfl (tOrE_f (tNotE_ok nm) (tOrE_f (tNotE_ok wh) (tOrE_f (tNotE_ok ch) rfl)))
    | ref k => exact absurd rfl (gy.noRef.1 k)
    | dic t a b => exact absurd rfl (gy.noRef.2 t a b)
    | _ => exact no rfl (tOrE_f (tNotE_ok nm) (tOrE_t rfl))
theorem words_of : ∀ {ts : List D}, ts.all tabOkD = true → ∃ ws : List Str, ts.map wordD = ws.map D.str
  | [], _ => ⟨[], rfl⟩
  | t :: ts, h => by
    rw [List.all_cons, Bool.and_eq_true] at h
    obtain ⟨ws, e⟩ := words_of h.2
    obtain ⟨a, b, c, rfl⟩ := t3_of (ok_isT3 h.1)
    have hn : nameD a = true := by
      have h1 := h.1
      unfold tabOkD at h1
      split at h1
      · rename_i e; cases e; rw [Bool.and_eq_true] at h1; exact h1.1
      · cases h1
    obtain ⟨x, rfl⟩ := name_str hn
    exact ⟨x :: ws, by rw [List.map_cons, List.map_cons, e]; rfl⟩
theorem is_book_spec (cs : Cs) {n : Nat} {d : D} (h : Good n d) (S : Sto) : f_is_book cs [d] S = .ok (.bl (bookD d)) S := by
  cases d with
  | tup ts =>
    have hg := h.tup
    have c1 := all_comp (i := 1) (f := eAndV (ePure (pIs "tuple" (pVar 1))) (eOpP dEq (eCallP dLen (aCons (eVar 1) aNil)) (eCst (.int 3)))) (B := isT3) (iSeq_ok (f := eVar 0) (x := .tup ts) (ε := startE N_is_book.length [.tup ts]) (S := S) rfl rfl) (fun d hd => by
      have gd := hg.2 d hd
      cases d with
      | tup ds =>
        refine eAndV_t rfl (eOpP_ok (x := .int ds.length) (y := .int 3) rfl rfl ?_)
        show some (D.bl ((ds.length : Int) == 3)) = some (.bl (decide (ds.length = 3)))
        congr 2
        by_cases e : ds.length = 3
        · rw [e]; simp
        · rw [decide_eq_false e]; exact beq_eq_false_iff_ne.mpr (by omega)
      | ref k => exact absurd rfl (gd.noRef.1 k)
      | dic t a b => exact absurd rfl (gd.noRef.2 t a b)
      | _ => rfl) rfl
    have c2 := tOrE_f (f := ePT (pNot (pTru (pIs "tuple" (pVar 0))))) (ε := startE N_is_book.length [.tup ts]) (ε1 := startE N_is_book.length [.tup ts]) (S := S) (S1 := S) rfl (tNotE_ok (tTruE_ok c1 rfl))
    cases h3 : ts.all isT3 with
    | false =>
      rw [h3] at c2
      have e : bookD (.tup ts) = false := by
        show (ts.all tabOkD && _) = false
        have : ts.all tabOkD = false := by
          cases z : ts.all tabOkD with
          | false => rfl
          | true =>
            rw [List.all_eq_true.mpr fun x hx => ok_isT3 (List.all_eq_true.mp z x hx)] at h3
            cases h3
        rw [this]; rfl
      rw [e]
      exact semOf_rt (sSeq_rt (sIf_t c2 (sRet_ok rfl)))
    | true =>
      rw [h3] at c2
      have L := for_all (g := gSeqD 3 (ggCons (gVar 2) (ggCons (gVar 3) (ggCons (gVar 4) ggNil)))) (b := tabB cs) (r := .bl false) (P := tabOkD) (lastT (some (.val (.tup ts))) none) S ts [] (fun q d l e => by
        have hd : d ∈ ts := by rw [List.nil_append] at e; rw [e]; simp
        obtain ⟨x, y, z, rfl⟩ := t3_of (List.all_eq_true.mp h3 d hd)
        obtain ⟨a2, a3, a4, ee⟩ := lastT_is (some (.val (.tup ts))) none q
        refine ⟨[some (.val (.tup ts)), none, some (.val x), some (.val y), some (.val z), none], ?_, ?_, ?_⟩
        · rw [ee]; exact gSeq_tup rfl (ggCons_ok rfl (ggCons_ok rfl (ggCons_ok rfl rfl)))
        · rw [lastT_snoc]; exact (tab_step cs (hg.2 _ hd) S).1
        · exact (tab_step cs (hg.2 _ hd) S).2)
      have it : iSeq (eVar 0) (startE N_is_book.length [.tup ts]) S = .ok ts (startE N_is_book.length [.tup ts]) S := iSeq_ok (x := .tup ts) rfl rfl
      cases ha : ts.all tabOkD with
      | false =>
        obtain ⟨ε2, r⟩ := L.2 ha
        have e : bookD (.tup ts) = false := by
          show (ts.all tabOkD && _) = false
          rw [ha]; rfl
        rw [e]
        exact semOf_rt (sSeq_nx (sIf_f c2 (r := .nx _ _) rfl) (sSeq_rt (sFor_ok it r)))
      | true =>
        have r := L.1 ha
        rw [List.nil_append] at r
        obtain ⟨ws, ew⟩ := words_of ha
        obtain ⟨a2, a3, a4, ee⟩ := lastT_is (some (.val (.tup ts))) none ts
        rw [ee] at r
        have e : bookD (.tup ts) = riseD (ws.map D.str) := by
          show (ts.all tabOkD && riseD (ts.map wordD)) = _
          rw [ha, ew]; rfl
        rw [e]
        have cm := eComp_ok (f := eOpP dIdx (eVar 1) (eCst (.int 0))) (vs := [1]) (iSeq_ok (f := eVar 0) (x := .tup ts) (ε := [some (.val (.tup ts)), none, a2, a3, a4, none]) (S := S) rfl rfl) (comp_map (i := 1) (ε := [some (.val (.tup ts)), none, a2, a3, a4, none]) (F := wordD) ts fun d hd => by
          obtain ⟨x, y, z, rfl⟩ := t3_of (List.all_eq_true.mp h3 d hd)
          exact eOpP_ok (x := .tup [x, y, z]) (y := .int 0) rfl rfl (dIdx_tup (by decide) rfl))
        rw [ew] at cm
        exact semOf_rt (sSeq_nx (sIf_f c2 (r := .nx _ _) rfl) (sSeq_nx (sFor_ok it r) (sRet_ok (eCall_ok (aCons_ok (eFrz_ok cm) (g := aNil) rfl) (rising_strs cs ws S)))))
  | ref k => exact absurd rfl (h.noRef.1 k)
  | dic t a b => exact absurd rfl (h.noRef.2 t a b)
  | _ => rfl
end LW
namespace LW
open DL L2 PyProof.Rows PySem PySem.Spec
variable [TabT]
theorem for_allI {g : GS} {b : SS} {r : D} {P : D → Bool} (Inv : List D → EV → Prop) (S : Sto) : ∀ (ds pre : List D) (ε : EV), Inv pre ε →
    (∀ (q : List D) (d : D) (l : List D) (ε : EV), pre ++ ds = q ++ d :: l → Inv q ε → ∃ ε1, g d ε S = .ok () ε1 S ∧ (P d = true → ∃ ε2, b ε1 S = .nx ε2 S ∧ Inv (q ++ [d]) ε2) ∧ (P d = false → ∃ ε2, b ε1 S = .rt r ε2 S)) →
    (ds.all P = true → ∃ ε2, sForL g b ds ε S = .nx ε2 S ∧ Inv (pre ++ ds) ε2) ∧ (ds.all P = false → ∃ ε2, sForL g b ds ε S = .rt r ε2 S)
  | [], pre, ε, i, _ => ⟨fun _ => ⟨ε, rfl, by rw [List.append_nil]; exact i⟩, fun h => by cases h⟩
  | d :: ds, pre, ε, i, h => by
    obtain ⟨ε1, h1, h2, h3⟩ := h pre d ds ε rfl i
    cases hp : P d with
    | true =>
      obtain ⟨ε2, h4, i2⟩ := h2 hp
      have ih := for_allI (g := g) (b := b) (r := r) (P := P) Inv S ds (pre ++ [d]) ε2 i2 (fun q x l ε e => h q x l ε (by rw [← e]; simp))
      have e : sForL g b (d :: ds) ε S = sForL g b ds ε2 S := by
        rw [sForL, h1]; dsimp only; rw [h4]
      refine ⟨fun ha => ?_, fun ha => ?_⟩
      · rw [List.all_cons, hp, Bool.true_and] at ha
        obtain ⟨ε3, k1, k2⟩ := ih.1 ha
        rw [List.append_assoc] at k2
        exact ⟨ε3, e.trans k1, k2⟩
      · rw [List.all_cons, hp, Bool.true_and] at ha
        obtain ⟨ε3, k⟩ := ih.2 ha
        exact ⟨ε3, e.trans k⟩
    | false =>
      obtain ⟨ε2, h4⟩ := h3 hp
      refine ⟨fun ha => (by rw [List.all_cons, hp] at ha; cases ha), fun _ => ⟨ε2, ?_⟩⟩
      rw [sForL, h1]; dsimp only; rw [h4]
def wholeIn (lo hi : Int) : D → Bool
  | .int i => decide (lo ≤ i) && decide (i ≤ hi)
  | _ => false
theorem Lis_whole_spec (cs : Cs) {n : Nat} {d : D} (lo hi : Int) (h : Good n d) (S : Sto) : f_Lis_whole cs [d, .int lo, .int hi] S = .ok (.bl (wholeIn lo hi d)) S := by
  cases d with
  | int i =>
    have c1 := chain_b (o := dLe) (o' := dLe) (ε := startE N_Lis_whole.length [.int i, .int lo, .int hi]) (S := S) (fa := eVar 1) (fb := eVar 0) (fc := eVar 2) (x := .int lo) (y := .int i) (z := .int hi) (p := decide (lo ≤ i)) (q := decide (i ≤ hi)) rfl rfl rfl rfl rfl
    exact semOf_rt (sRet_ok (eAndV_t rfl (eAndV_t rfl c1)))
  | ref k => exact absurd rfl (h.noRef.1 k)
  | dic t a b => exact absurd rfl (h.noRef.2 t a b)
  | _ => rfl
def rowB (cs : Cs) : SS := (sSeq (sIf (ePT (pOr (pNot (pTru (pIs "tuple" (pVar 7)))) (pB (pOp dNe (pCall dLen (pCons (pVar 7) pNil)) (pVar 4))))) (sRet (eCst (.bl false))) sNil)
    (sIf (tTruE (eFrz (eComp (iSeq (eVar 7)) (gVar 8) (tNotE (tTruE (eCall (f_Lis_whole cs) (aCons (eVar 8) (aCons (ePure (pUn dNeg (pCst (.int 9999)))) (aCons (eCst (.int 9999)) aNil)))))) (eVar 8) [8]))) (sRet (eCst (.bl false))) sNil))
theorem wholeV (d : D) : wholeIn (-9999) 9999 d = valueD d := by cases d <;> rfl
theorem lenV {f : PF} {ε : EV} {S : Sto} {ds : List D} {i : Nat} {k : Int} (hv : f ε S = some (.tup ds)) (hk : pVar i ε S = some (.int k)) : pB (pOp dNe (pCall dLen (pCons f pNil)) (pVar i)) ε S = some (!decide ((ds.length : Int) = k)) :=
  pB_ok (pOp_ok (pCall_ok (pCons_ok hv rfl) (d := .int ds.length) rfl) hk rfl)
theorem lenC {f : PF} {ε : EV} {S : Sto} {ds : List D} {k : Int} (hv : f ε S = some (.tup ds)) : pB (pOp dNe (pCall dLen (pCons f pNil)) (pCst (.int k))) ε S = some (!decide ((ds.length : Int) = k)) :=
  pB_ok (pOp_ok (pCall_ok (pCons_ok hv rfl) (d := .int ds.length) rfl) rfl rfl)
theorem row_step (cs : Cs) {n : Nat} {a0 a1 a2 a3 a5 : Option SV} {k : Int} {d : D} (h : Good n d) (S : Sto) :
    (rowOkD k d = true → rowB cs [a0, a1, a2, a3, some (.val (.int k)), a5, none, some (.val d), none] S = .nx [a0, a1, a2, a3, some (.val (.int k)), a5, none, some (.val d), none] S) ∧
    (rowOkD k d = false → ∃ ε2, rowB cs [a0, a1, a2, a3, some (.val (.int k)), a5, none, some (.val d), none] S = .rt (.bl false) ε2 S) := by
  cases d with
  | tup xs =>
    have hg := h.tup
    have ln := lenV (f := pVar 7) (i := 4) (ε := [a0, a1, a2, a3, some (.val (.int k)), a5, none, some (.val (.tup xs)), none]) (S := S) (ds := xs) (k := k) rfl rfl
    have t1 : pNot (pTru (pIs "tuple" (pVar 7))) [a0, a1, a2, a3, some (.val (.int k)), a5, none, some (.val (.tup xs)), none] S = some false := rfl
    have c1 := ePT_ok (pOr_f t1 ln)
    have e : rowOkD k (.tup xs) = (decide ((xs.length : Int) = k) && xs.all valueD) := rfl
    rw [e]
    cases hl : decide ((xs.length : Int) = k) with
    | false =>
      rw [hl] at c1
      exact ⟨fun e => (by cases e), fun _ => ⟨_, sSeq_rt (sIf_t c1 (sRet_ok rfl))⟩⟩
    | true =>
      rw [hl] at c1
      have c2 := filter_comp (i := 8) (t := tNotE (tTruE (eCall (f_Lis_whole cs) (aCons (eVar 8) (aCons (ePure (pUn dNeg (pCst (.int 9999)))) (aCons (eCst (.int 9999)) aNil)))))) (P := fun d => !valueD d) (iSeq_ok (f := eVar 7) (x := .tup xs) (ε := [a0, a1, a2, a3, some (.val (.int k)), a5, none, some (.val (.tup xs)), none]) (S := S) rfl rfl) (fun d hd => by
        have w := Lis_whole_spec cs (-9999) 9999 (hg.2 d hd) S
        rw [wholeV] at w
        exact tNotE_ok (tTruE_ok (eCall_ok (ds := [d, .int (-9999), .int 9999]) rfl w) rfl)) (fun d => rfl) rfl
      have c3 := tTruE_ok (b := !(xs.filter fun d => !valueD d).isEmpty) c2 rfl
      rw [filter_none] at c3
      cases hv : xs.all valueD with
      | false =>
        rw [hv] at c3
        exact ⟨fun e => (by cases e), fun _ => ⟨_, sSeq_nx (sIf_f c1 (r := .nx _ _) rfl) (sIf_t c3 (sRet_ok rfl))⟩⟩
      | true =>
        rw [hv] at c3
        exact ⟨fun _ => sSeq_nx (sIf_f c1 (r := .nx _ _) rfl) (sIf_f c3 rfl), fun e => (by cases e)⟩
  | ref k => exact absurd rfl (h.noRef.1 k)
  | dic t a b => exact absurd rfl (h.noRef.2 t a b)
  | _ => exact ⟨fun e => (by cases e), fun _ => ⟨_, sSeq_rt (sIf_t rfl (sRet_ok rfl))⟩⟩
theorem lays_sorted {n : Nat} {es : List D} (h : lays n es = true) : lays n (dSort es) = true := lays_of fun d hd => lays_mem h ((dSort_perm es).mem_iff.mp hd)
theorem ne_rows {rs : List (List Int)} : dNe (.lst (rs.map rowD)) (.lst (dSort ((ddL rs).map rowD))) = some (.bl (!riseD (rs.map rowD))) := by
  have l1 : lays 63 (rs.map rowD) = true := lays_rows 62 rs
  have l2 : lays 63 (dSort ((ddL rs).map rowD)) = true := lays_sorted (lays_rows 62 _)
  show (if (lay 64 (.lst (rs.map rowD)) && lay 64 (.lst (dSort ((ddL rs).map rowD)))) = true then some (D.bl (!deq (.lst (rs.map rowD)) (.lst (dSort ((ddL rs).map rowD))))) else none) = _
  rw [if_pos (by simp only [lay, l1, l2, Bool.and_self])]
  rw [show deq (.lst (rs.map rowD)) (.lst (dSort ((ddL rs).map rowD))) = deqs (rs.map rowD) (dSort ((ddL rs).map rowD)) by simp [deq], rows_eq]
theorem lays_strs2 {ws : List Str} (hs : ∀ w ∈ ws, PyData.strOk w = true) (n : Nat) : lays n (ws.map D.str) = true := lays_of fun d hd => by
  obtain ⟨w, hw, rfl⟩ := List.mem_map.mp hd
  cases n <;> simp [lay, hs w hw]
theorem eq_strs {ws : List Str} (hs : ∀ w ∈ ws, PyData.strOk w = true) : dEq (.lst (ws.map D.str)) (.lst (dSort ((ddL ws).map D.str))) = some (.bl (riseD (ws.map D.str))) := by
  have l1 : lays 63 (ws.map D.str) = true := lays_strs2 hs 63
  have l2 : lays 63 (dSort ((ddL ws).map D.str)) = true := lays_sorted (lays_strs2 (fun w hw => hs w (ddL_mem.mp hw)) 63)
  show (if (lay 64 (.lst (ws.map D.str)) && lay 64 (.lst (dSort ((ddL ws).map D.str)))) = true then some (D.bl (deq (.lst (ws.map D.str)) (.lst (dSort ((ddL ws).map D.str))))) else none) = _
  rw [if_pos (by simp only [lay, l1, l2, Bool.and_self])]
  rw [show deq (.lst (ws.map D.str)) (.lst (dSort ((ddL ws).map D.str))) = deqs (ws.map D.str) (dSort ((ddL ws).map D.str)) by simp [deq], strs_eq]
def lA (cs : Cs) : SS := (sIf (ePT (pOr (pNot (pTru (pIs "tuple" (pVar 2)))) (pB (pOp dNe (pCall dLen (pCons (pVar 2) pNil)) (pCst (.int 3)))))) (sRet (eCst (.bl false))) sNil)
def lB (cs : Cs) : SS := (sAsg (eVar 2) (gSeqD 3 (ggCons (gVar 3) (ggCons (gVar 4) (ggCons (gVar 5) ggNil)))))
def lC (cs : Cs) : SS := (sIf (tOrE (ePT (pNot (pTru (pIs "str" (pVar 3))))) (tNotE (tOf (eChain (fun x y ε S => R.opt (dLt x y) ε S) (fun x y ε S => R.opt (dLt x y) ε S) (eCst (.int 0)) (eCallP dLen (aCons (eVar 3) aNil)) (eCst (.int 7)))))) (sRet (eCst (.bl false))) sNil)
def lD (cs : Cs) : SS := (sIf (tTruE (eFrz (eComp (iSeq (eVar 3)) (gVar 6) (tNotE (tOf (eChain (fun x y ε S => R.opt (dLe x y) ε S) (fun x y ε S => R.opt (dLe x y) ε S) (eCst (.str "a")) (eVar 6) (eCst (.str "z"))))) (eVar 6) [6]))) (sRet (eCst (.bl false))) sNil)
def lE (cs : Cs) : SS := (sIf (tOrE (tNotE (tTruE (eCall (f_Lis_whole cs) (aCons (eVar 4) (aCons (eCst (.int 1)) (aCons (eCst (.int 5)) aNil)))))) (ePT (pNot (pTru (pIs "tuple" (pVar 5)))))) (sRet (eCst (.bl false))) sNil)
def lF (cs : Cs) : SS := (sFor (iSeq (eVar 5)) (gVar 7) (rowB cs))
def lG (cs : Cs) : SS := (sIf (tOf (eOpP dNe (eCallP dLstOf (aCons (eVar 5) aNil)) (eSortSetU (eVar 5)))) (sRet (eCst (.bl false))) sNil)
def lH (cs : Cs) : SS := (sExpr (eMut "list" (oSlot 1) mAppend (aCons (eVar 3) aNil)))
def ltabB (cs : Cs) : SS := sSeq (lA cs) (sSeq (lB cs) (sSeq (lC cs) (sSeq (lD cs) (sSeq (lE cs) (sSeq (lF cs) (sSeq (lG cs) (lH cs)))))))
theorem tab_word {w y z : D} (h : tabOkD (.tup [w, y, z]) = true) : nameD w = true := by
  unfold tabOkD at h
  split at h
  · rename_i e; cases e; rw [Bool.and_eq_true] at h; exact h.1
  · cases h
theorem tab_not {w y z : D} (h : nameD w = false) : tabOkD (.tup [w, y, z]) = false := by
  cases z2 : tabOkD (.tup [w, y, z]) with
  | false => rfl
  | true => rw [tab_word z2] at h; cases h
theorem tab_not2 {w y z : D} (h : wholeIn 1 5 y = false) : tabOkD (.tup [w, y, z]) = false := by
  unfold tabOkD
  split
  · rename_i w' k' rs' e
    cases e
    have h : (decide (1 ≤ k') && decide (k' ≤ 5)) = false := h
    rw [h]; simp
  · rfl
theorem lt64 {n : Nat} (h : n ≤ 60) : n < sizeLine := Nat.lt_of_le_of_lt h (by decide)
theorem ltab_step (cs : Cs) {n : Nat} {T : D} {a2 a3 a4 a5 a7 : Option SV} {ws : List D} {d : D} (h : Good n d) (hl : ws.length ≤ 60) (S : Sto) :
    (tabOkD d = true → ∃ b3 b4 b5 b7 : Option SV, ltabB cs [some (.val T), some (.own (.lst ws)), some (.val d), a3, a4, a5, none, a7, none] S = .nx [some (.val T), some (.own (.lst (ws ++ [wordD d]))), some (.val d), b3, b4, b5, none, b7, none] S) ∧
    (tabOkD d = false → ∃ ε2, ltabB cs [some (.val T), some (.own (.lst ws)), some (.val d), a3, a4, a5, none, a7, none] S = .rt (.bl false) ε2 S) := by
  have no : tabOkD d = false → (∃ ε2, ltabB cs [some (.val T), some (.own (.lst ws)), some (.val d), a3, a4, a5, none, a7, none] S = .rt (.bl false) ε2 S) →
      (tabOkD d = true → ∃ b3 b4 b5 b7 : Option SV, ltabB cs [some (.val T), some (.own (.lst ws)), some (.val d), a3, a4, a5, none, a7, none] S = .nx [some (.val T), some (.own (.lst (ws ++ [wordD d]))), some (.val d), b3, b4, b5, none, b7, none] S) ∧
      (tabOkD d = false → ∃ ε2, ltabB cs [some (.val T), some (.own (.lst ws)), some (.val d), a3, a4, a5, none, a7, none] S = .rt (.bl false) ε2 S) := fun e r =>
    ⟨fun e2 => (by rw [e] at e2; cases e2), fun _ => r⟩
  cases d with
  | tup ds =>
    have ln := lenC (f := pVar 2) (k := 3) (ε := [some (.val T), some (.own (.lst ws)), some (.val (.tup ds)), a3, a4, a5, none, a7, none]) (S := S) (ds := ds) rfl
    have t1 : pNot (pTru (pIs "tuple" (pVar 2))) [some (.val T), some (.own (.lst ws)), some (.val (.tup ds)), a3, a4, a5, none, a7, none] S = some false := rfl
    have c1 := ePT_ok (pOr_f t1 ln)
    by_cases h3 : (ds.length : Int) = 3
    · obtain ⟨x, y, z, rfl⟩ : ∃ x y z, ds = [x, y, z] := by
        match ds, h3 with
        | [x, y, z], _ => exact ⟨x, y, z, rfl⟩
      rw [decide_eq_true h3] at c1
      have sA : lA cs [some (.val T), some (.own (.lst ws)), some (.val (.tup [x, y, z])), a3, a4, a5, none, a7, none] S = .nx [some (.val T), some (.own (.lst ws)), some (.val (.tup [x, y, z])), a3, a4, a5, none, a7, none] S := sIf_f c1 rfl
      have sB : lB cs [some (.val T), some (.own (.lst ws)), some (.val (.tup [x, y, z])), a3, a4, a5, none, a7, none] S = .nx [some (.val T), some (.own (.lst ws)), some (.val (.tup [x, y, z])), some (.val x), some (.val y), some (.val z), none, a7, none] S :=
        sAsg_ok (d := .tup [x, y, z]) rfl (gSeq_tup rfl (ggCons_ok rfl (ggCons_ok rfl (ggCons_ok rfl rfl))))
      have hg := h.tup
      have gx := hg.2 x (by simp)
      have gy := hg.2 y (by simp)
      have gz := hg.2 z (by simp)
      generalize hT : (.tup [x, y, z] : D) = d3 at sA sB no
      have go : ∀ {q : SS} {r : SR}, q [some (.val T), some (.own (.lst ws)), some (.val d3), some (.val x), some (.val y), some (.val z), none, a7, none] S = r → sSeq (lA cs) (sSeq (lB cs) q) [some (.val T), some (.own (.lst ws)), some (.val d3), a3, a4, a5, none, a7, none] S = r := fun hq => sSeq_nx sA (sSeq_nx sB hq)
      cases x with
      | str w =>
        have hlw := gx.str.1
        have lw : eCallP dLen (aCons (eVar 3) aNil) [some (.val T), some (.own (.lst ws)), some (.val d3), some (.val (.str w)), some (.val y), some (.val z), none, a7, none] S = .ok (.int (w.length : Nat)) [some (.val T), some (.own (.lst ws)), some (.val d3), some (.val (.str w)), some (.val y), some (.val z), none, a7, none] S := eCallP_ok (aCons_ok rfl rfl) (len_str hlw)
        have c3 := tOf_ok (chain_b (o := dLt) (o' := dLt) (fa := eCst (.int 0)) (fc := eCst (.int 7)) (x := .int 0) (z := .int 7) (p := decide ((0 : Int) < (w.length : Nat))) (q := decide (((w.length : Nat) : Int) < 7)) rfl lw rfl rfl rfl)
        have c4 := filter_comp (i := 6) (t := tNotE (tOf (eChain (fun x y ε S => R.opt (dLe x y) ε S) (fun x y ε S => R.opt (dLe x y) ε S) (eCst (.str "a")) (eVar 6) (eCst (.str "z"))))) (P := fun d => !signB d) (iSeq_ok (f := eVar 3) (ε := [some (.val T), some (.own (.lst ws)), some (.val d3), some (.val (.str w)), some (.val y), some (.val z), none, a7, none]) (S := S) rfl (seq_str hlw)) (fun d hd => by
          obtain ⟨u, e⟩ := sign_at hd
          exact tNotE_ok (tOf_ok (sign_chain e rfl))) (fun d => rfl) rfl
        have c5 := tTruE_ok (b := !((chars w).filter fun d => !signB d).isEmpty) c4 rfl
        rw [filter_none] at c5
        have en : nameD (.str w) = ((decide ((0 : Int) < (w.length : Nat)) && decide (((w.length : Nat) : Int) < 7)) && (chars w).all signB) := by
          show ((decide ((1 : Int) ≤ (w.length : Nat)) && decide (((w.length : Nat) : Int) ≤ 6)) && (chars w).all signB) = _
          have e1 : decide ((1 : Int) ≤ (w.length : Nat)) = decide ((0 : Int) < (w.length : Nat)) := decide_eq_decide.mpr (by omega)
          have e2 : decide (((w.length : Nat) : Int) ≤ 6) = decide (((w.length : Nat) : Int) < 7) := decide_eq_decide.mpr (by omega)
          rw [e1, e2]
        cases hc : (decide ((0 : Int) < (w.length : Nat)) && decide (((w.length : Nat) : Int) < 7)) with
        | false =>
          rw [hc] at c3 en
          refine no ?_ ⟨_, go (sSeq_rt (sIf_t (tOrE_f rfl (tNotE_ok c3)) (sRet_ok rfl)))⟩
          rw [← hT]; exact tab_not (by rw [en]; rfl)
        | true =>
          rw [hc] at c3 en
          have sC : lC cs [some (.val T), some (.own (.lst ws)), some (.val d3), some (.val (.str w)), some (.val y), some (.val z), none, a7, none] S = .nx [some (.val T), some (.own (.lst ws)), some (.val d3), some (.val (.str w)), some (.val y), some (.val z), none, a7, none] S := sIf_f (tOrE_f rfl (tNotE_ok c3)) rfl
          cases hs : (chars w).all signB with
          | false =>
            rw [hs] at c5 en
            refine no ?_ ⟨_, go (sSeq_nx sC (sSeq_rt (sIf_t c5 (sRet_ok rfl))))⟩
            rw [← hT]; exact tab_not (by rw [en]; rfl)
          | true =>
            rw [hs] at c5 en
            have sD : lD cs [some (.val T), some (.own (.lst ws)), some (.val d3), some (.val (.str w)), some (.val y), some (.val z), none, a7, none] S = .nx [some (.val T), some (.own (.lst ws)), some (.val d3), some (.val (.str w)), some (.val y), some (.val z), none, a7, none] S := sIf_f c5 rfl
            have c6 := tTruE_ok (eCall_ok (F := f_Lis_whole cs) (fa := aCons (eVar 4) (aCons (eCst (.int 1)) (aCons (eCst (.int 5)) aNil))) (ε := [some (.val T), some (.own (.lst ws)), some (.val d3), some (.val (.str w)), some (.val y), some (.val z), none, a7, none]) (S := S) (ds := [y, .int 1, .int 5]) rfl (Lis_whole_spec cs 1 5 gy S)) rfl
            cases hw : wholeIn 1 5 y with
            | false =>
              rw [hw] at c6
              refine no ?_ ⟨_, go (sSeq_nx sC (sSeq_nx sD (sSeq_rt (sIf_t (tOrE_t (tNotE_ok c6)) (sRet_ok rfl)))))⟩
              rw [← hT]; exact tab_not2 hw
            | true =>
              rw [hw] at c6
              obtain ⟨k, rfl⟩ : ∃ k, y = .int k := by cases y <;> first | exact ⟨_, rfl⟩ | cases hw
              have hk : (decide (1 ≤ k) && decide (k ≤ 5)) = true := hw
              cases z with
              | tup rs =>
                have sE : lE cs [some (.val T), some (.own (.lst ws)), some (.val d3), some (.val (.str w)), some (.val (.int k)), some (.val (.tup rs)), none, a7, none] S = .nx [some (.val T), some (.own (.lst ws)), some (.val d3), some (.val (.str w)), some (.val (.int k)), some (.val (.tup rs)), none, a7, none] S :=
                  sIf_f (tOrE_f (tNotE_ok c6) rfl) rfl
                have e : tabOkD d3 = (rs.all (rowOkD k) && riseD rs) := by
                  rw [← hT]
                  show (nameD (.str w) && ((decide (1 ≤ k) && decide (k ≤ 5)) && (rs.all (rowOkD k) && riseD rs))) = _
                  rw [en, hk]; rfl
                have hr := gz.tup
                have L := for_allI (g := gVar 7) (b := rowB cs) (r := .bl false) (P := rowOkD k) (fun _ ε => ∃ b7, ε = [some (.val T), some (.own (.lst ws)), some (.val d3), some (.val (.str w)), some (.val (.int k)), some (.val (.tup rs)), none, b7, none]) S rs [] _ ⟨a7, rfl⟩ (fun q d l ε e ⟨b7, ee⟩ => by
                  subst ee
                  have hd : d ∈ rs := by rw [List.nil_append] at e; rw [e]; simp
                  have st := row_step cs (a0 := some (.val T)) (a1 := some (.own (.lst ws))) (a2 := some (.val d3)) (a3 := some (.val (.str w))) (a5 := some (.val (.tup rs))) (k := k) (hr.2 d hd) S
                  exact ⟨_, rfl, fun hp => ⟨_, st.1 hp, _, rfl⟩, st.2⟩)
                have it : iSeq (eVar 5) [some (.val T), some (.own (.lst ws)), some (.val d3), some (.val (.str w)), some (.val (.int k)), some (.val (.tup rs)), none, a7, none] S = .ok rs [some (.val T), some (.own (.lst ws)), some (.val d3), some (.val (.str w)), some (.val (.int k)), some (.val (.tup rs)), none, a7, none] S := iSeq_ok (x := .tup rs) rfl rfl
                cases ha : rs.all (rowOkD k) with
                | false =>
                  obtain ⟨ε2, r⟩ := L.2 ha
                  rw [ha] at e
                  exact no e ⟨_, go (sSeq_nx sC (sSeq_nx sD (sSeq_nx sE (sSeq_rt (sFor_ok it r)))))⟩
                | true =>
                  obtain ⟨ε2, r, b7, rfl⟩ := L.1 ha
                  rw [ha] at e
                  have sF : lF cs [some (.val T), some (.own (.lst ws)), some (.val d3), some (.val (.str w)), some (.val (.int k)), some (.val (.tup rs)), none, a7, none] S = .nx [some (.val T), some (.own (.lst ws)), some (.val d3), some (.val (.str w)), some (.val (.int k)), some (.val (.tup rs)), none, b7, none] S := sFor_ok it r
                  obtain ⟨rr, rfl, hlen⟩ := rows_of ha
                  rw [Bool.and_eq_true, decide_eq_true_eq] at hk
                  have l60 : rr.length ≤ 60 := by have := hr.1; rwa [List.length_map] at this
                  have ss := sortset_rows (rs := rr) (by omega) fun u hu e => by
                    subst e
                    have := hlen [] hu
                    simp at this
                    omega
                  have so : eSortSetU (eVar 5) [some (.val T), some (.own (.lst ws)), some (.val d3), some (.val (.str w)), some (.val (.int k)), some (.val (.tup (rr.map rowD))), none, b7, none] S = .ok (.lst (dSort ((ddL rr).map rowD))) [some (.val T), some (.own (.lst ws)), some (.val d3), some (.val (.str w)), some (.val (.int k)), some (.val (.tup (rr.map rowD))), none, b7, none] S := by
                    show R.opt (dSrtU (rr.map rowD)) _ _ = _
                    rw [ss]; rfl
                  have li : eCallP dLstOf (aCons (eVar 5) aNil) [some (.val T), some (.own (.lst ws)), some (.val d3), some (.val (.str w)), some (.val (.int k)), some (.val (.tup (rr.map rowD))), none, b7, none] S = .ok (.lst (rr.map rowD)) [some (.val T), some (.own (.lst ws)), some (.val d3), some (.val (.str w)), some (.val (.int k)), some (.val (.tup (rr.map rowD))), none, b7, none] S := eCallP_ok (ds := [.tup (rr.map rowD)]) rfl rfl
                  have c7 := tOf_ok (eOpP_ok (op := dNe) li so ne_rows)
                  rw [Bool.true_and] at e
                  cases hq : riseD (rr.map rowD) with
                  | false =>
                    rw [hq] at c7 e
                    exact no e ⟨_, go (sSeq_nx sC (sSeq_nx sD (sSeq_nx sE (sSeq_nx sF (sSeq_rt (sIf_t c7 (sRet_ok rfl)))))))⟩
                  | true =>
                    rw [hq] at c7 e
                    have sG : lG cs [some (.val T), some (.own (.lst ws)), some (.val d3), some (.val (.str w)), some (.val (.int k)), some (.val (.tup (rr.map rowD))), none, b7, none] S = .nx [some (.val T), some (.own (.lst ws)), some (.val d3), some (.val (.str w)), some (.val (.int k)), some (.val (.tup (rr.map rowD))), none, b7, none] S := sIf_f c7 rfl
                    have sH : lH cs [some (.val T), some (.own (.lst ws)), some (.val d3), some (.val (.str w)), some (.val (.int k)), some (.val (.tup (rr.map rowD))), none, b7, none] S = .nx [some (.val T), some (.own (.lst (ws ++ [.str w]))), some (.val d3), some (.val (.str w)), some (.val (.int k)), some (.val (.tup (rr.map rowD))), none, b7, none] S := by
                      have gm : getM (.slot 1) [some (.val T), some (.own (.lst ws)), some (.val d3), some (.val (.str w)), some (.val (.int k)), some (.val (.tup (rr.map rowD))), none, b7, none] S = some (.lst ws) := rfl
                      exact (sExpr_ok (eMut_ok (m' := .lst (ws ++ [.str w])) (d := .non) (oSlot_ok gm) gm rfl (fa := aCons (eVar 3) aNil) (ds := [.str w]) rfl gm (mAppend_lt (lt64 hl)))).trans rfl
                    refine ⟨fun _ => ⟨some (.val (.str w)), some (.val (.int k)), some (.val (.tup (rr.map rowD))), b7, ?_⟩, fun e2 => (by rw [e] at e2; cases e2)⟩
                    have ew : wordD d3 = .str w := by rw [← hT]; rfl
                    rw [ew]
                    exact go (sSeq_nx sC (sSeq_nx sD (sSeq_nx sE (sSeq_nx sF (sSeq_nx sG sH)))))
              | ref k => exact absurd rfl (gz.noRef.1 k)
              | dic t a b => exact absurd rfl (gz.noRef.2 t a b)
              | _ => exact no (by rw [← hT]; rfl) ⟨_, go (sSeq_nx sC (sSeq_nx sD (sSeq_rt (sIf_t (tOrE_f (tNotE_ok c6) rfl) (sRet_ok rfl)))))⟩
      | ref k => exact absurd rfl (gx.noRef.1 k)
      | dic t a b => exact absurd rfl (gx.noRef.2 t a b)
      | _ => exact no (by rw [← hT]; exact tab_not rfl) ⟨_, go (sSeq_rt (sIf_t (tOrE_t rfl) (sRet_ok rfl)))⟩
    · rw [decide_eq_false h3] at c1
      refine no ?_ ⟨_, sSeq_rt (sIf_t c1 (sRet_ok rfl))⟩
      unfold tabOkD
      split
      · rename_i e
        cases e
        exact absurd rfl h3
      · rfl
  | ref k => exact absurd rfl (h.noRef.1 k)
  | dic t a b => exact absurd rfl (h.noRef.2 t a b)
  | _ => exact no rfl ⟨_, sSeq_rt (sIf_t rfl (sRet_ok rfl))⟩
theorem words_of2 {n : Nat} : ∀ {ts : List D}, ts.all tabOkD = true → (∀ d ∈ ts, Good n d) → ∃ ws : List Str, ts.map wordD = ws.map D.str ∧ ∀ w ∈ ws, PyData.strOk w = true
  | [], _, _ => ⟨[], rfl, fun w hw => by cases hw⟩
  | t :: ts, h, hg => by
    rw [List.all_cons, Bool.and_eq_true] at h
    obtain ⟨ws, e, hs⟩ := words_of2 h.2 fun d hd => hg d (List.mem_cons_of_mem _ hd)
    obtain ⟨a, b, c, rfl⟩ := t3_of (ok_isT3 h.1)
    obtain ⟨x, rfl⟩ := name_str (tab_word h.1)
    refine ⟨x :: ws, by rw [List.map_cons, List.map_cons, e]; rfl, fun w hw => ?_⟩
    rcases List.mem_cons.mp hw with e | hw
    · rw [e]
      exact ((hg _ List.mem_cons_self).tup.2 (.str x) (by simp)).str.2
    · exact hs w hw
theorem Lis_book_spec (cs : Cs) {n : Nat} {d : D} (h : Good n d) (S : Sto) : f_Lis_book cs [d] S = .ok (.bl (bookD d)) S := by
  cases d with
  | tup ts =>
    have hg := h.tup
    have L := for_allI (g := gVar 2) (b := ltabB cs) (r := .bl false) (P := tabOkD) (fun q ε => ∃ a2 a3 a4 a5 a7, ε = [some (.val (.tup ts)), some (.own (.lst (q.map wordD))), a2, a3, a4, a5, none, a7, none]) S ts [] _ ⟨none, none, none, none, none, rfl⟩ (fun q d l ε e ⟨a2, a3, a4, a5, a7, ee⟩ => by
      subst ee
      have hd : d ∈ ts := by rw [List.nil_append] at e; rw [e]; simp
      have lq : (q.map wordD).length ≤ 60 := by
        have := congrArg List.length e
        simp only [List.nil_append, List.length_append, List.length_cons] at this
        rw [List.length_map]
        have := hg.1
        omega
      have st := ltab_step cs (T := .tup ts) (a2 := a2) (a3 := a3) (a4 := a4) (a5 := a5) (a7 := a7) (hg.2 d hd) lq S
      refine ⟨_, rfl, fun hp => ?_, st.2⟩
      obtain ⟨b3, b4, b5, b7, r⟩ := st.1 hp
      exact ⟨_, r, _, _, _, _, _, by rw [List.map_append]; rfl⟩)
    have it : iSeq (eVar 0) [some (.val (.tup ts)), some (.own (.lst [])), none, none, none, none, none, none, none] S = .ok ts [some (.val (.tup ts)), some (.own (.lst [])), none, none, none, none, none, none, none] S := iSeq_ok (x := .tup ts) rfl rfl
    have c0 : ePT (pNot (pTru (pIs "tuple" (pVar 0)))) (startE N_Lis_book.length [.tup ts]) S = .ok false (startE N_Lis_book.length [.tup ts]) S := rfl
    have s1 : sOwn 1 (eLst aNil) (startE N_Lis_book.length [.tup ts]) S = .nx [some (.val (.tup ts)), some (.own (.lst [])), none, none, none, none, none, none, none] S := sOwn_ok (m := .lst []) (eLst_ok rfl)
    cases ha : ts.all tabOkD with
    | false =>
      obtain ⟨ε2, r⟩ := L.2 ha
      have e : bookD (.tup ts) = false := by
        show (ts.all tabOkD && _) = false
        rw [ha]; rfl
      rw [e]
      exact semOf_rt (sSeq_nx (sIf_f c0 (r := .nx _ _) rfl) (sSeq_nx s1 (sSeq_rt (sFor_ok it r))))
    | true =>
      obtain ⟨ε2, r, a2, a3, a4, a5, a7, rfl⟩ := L.1 ha
      rw [List.nil_append] at r
      obtain ⟨ws, ew, hs⟩ := words_of2 ha hg.2
      rw [ew] at r
      have e : bookD (.tup ts) = riseD (ws.map D.str) := by
        show (ts.all tabOkD && riseD (ts.map wordD)) = _
        rw [ha, ew]; rfl
      rw [e]
      have wl : ws.length ≤ 63 := by
        have := congrArg List.length ew
        rw [List.length_map, List.length_map] at this
        have := hg.1
        omega
      have e1 : eVar 1 [some (.val (.tup ts)), some (.own (.lst (ws.map D.str))), a2, a3, a4, a5, none, a7, none] S = .ok (.lst (ws.map D.str)) [some (.val (.tup ts)), some (.val (.lst (ws.map D.str))), a2, a3, a4, a5, none, a7, none] S := rfl
      have so : eSortSetU (eVar 1) [some (.val (.tup ts)), some (.val (.lst (ws.map D.str))), a2, a3, a4, a5, none, a7, none] S = .ok (.lst (dSort ((ddL ws).map D.str))) [some (.val (.tup ts)), some (.val (.lst (ws.map D.str))), a2, a3, a4, a5, none, a7, none] S := by
        show R.opt (dSrtU (ws.map D.str)) _ _ = _
        rw [sortset_strs wl hs]; rfl
      exact semOf_rt (sSeq_nx (sIf_f c0 (r := .nx _ _) rfl) (sSeq_nx s1 (sSeq_nx (sFor_ok it r) (sRet_ok (eOpP_ok e1 so (eq_strs hs))))))
  | ref k => exact absurd rfl (h.noRef.1 k)
  | dic t a b => exact absurd rfl (h.noRef.2 t a b)
  | _ => rfl
end LW
namespace DL
open L2 PyProof.Rows PySem PySem.Spec
variable [TabT]
theorem eAddF_ok {fa fb : ES D} {ε ε1 ε2 : EV} {S S1 S2 : Sto} {a b : List D} (h1 : fa ε S = .ok (.lst a) ε1 S1) (h2 : fb ε1 S1 = .ok (.lst b) ε2 S2) (hl : a.length + b.length ≤ sizeLine) : eAddF fa fb ε S = .ok (.lst (a ++ b)) ε2 S2 := by
  unfold eAddF; rw [h1]; dsimp only [R.bind]; rw [h2]; dsimp only
  rw [show mAddL (.lst a) (.lst b) = some (.lst (a ++ b)) from if_pos hl]; rfl
theorem all_comp2 {it : ES (List D)} {f : ES D} {i : Nat} {ε ε1 : EV} {S : Sto} {B : D → Bool} {ds : List D} (hi : it ε S = .ok ds ε1 S) (h : ∀ d ∈ ds, f ((wipeE ε1 [i]).set i (some (.val d))) S = .ok (.bl (B d)) ((wipeE ε1 [i]).set i (some (.val d))) S) (hb : backE ε1 (wipeE ε1 [i]) [i] = ε1) :
    eCallP dAll (aCons (eFrz (eComp it (gVar i) tYesD f [i])) aNil) ε S = .ok (.bl (ds.all B)) ε1 S := by
  have c := eComp_ok (f := f) (vs := [i]) hi (comp_map (ε := ε1) (F := fun d => .bl (B d)) ds h)
  rw [hb] at c
  exact eCallP_ok (aCons_ok (eFrz_ok c) (g := aNil) rfl) (dAll_map B ds)
end DL
namespace LW
open DL L2 PyProof.Rows PySem PySem.Spec
variable [TabT]
theorem dAdd_tup {a b : List D} (h : a.length + b.length ≤ sizeLine) : dAdd (.tup a) (.tup b) = some (.tup (a ++ b)) := if_pos h
/-! ### what is good -/
def GoodE (d : D) : Prop := ∃ n, Good n d
def AllE (ds : List D) : Prop := ∀ d ∈ ds, GoodE d
theorem AllE.nil : AllE [] := fun d hd => by simp at hd
theorem AllE.cons {d : D} {ds : List D} (h : GoodE d) (h2 : AllE ds) : AllE (d :: ds) := fun x hx => by
  rcases List.mem_cons.mp hx with e | e
  · rw [e]; exact h
  · exact h2 x e
theorem AllE.append {a b : List D} (h : AllE a) (h2 : AllE b) : AllE (a ++ b) := fun x hx => (List.mem_append.mp hx).elim (h x) (h2 x)
theorem AllE.lvl : ∀ {ds : List D}, AllE ds → ∃ n, ∀ d ∈ ds, Good n d
  | [], _ => ⟨0, fun d hd => by simp at hd⟩
  | d :: ds, h => by
    obtain ⟨n, hn⟩ := h d List.mem_cons_self
    obtain ⟨m, hm⟩ := AllE.lvl (ds := ds) fun x hx => h x (List.mem_cons_of_mem _ hx)
    refine ⟨n + m, fun x hx => ?_⟩
    rcases List.mem_cons.mp hx with e | e
    · rw [e]; exact hn.upTo m
    · rw [Nat.add_comm]; exact (hm x e).upTo n
theorem GoodE.tup {ds : List D} (hl : ds.length ≤ 60) (h : AllE ds) : GoodE (.tup ds) := let ⟨n, hn⟩ := h.lvl; ⟨n + 1, hl, hn⟩
theorem GoodE.lst {ds : List D} (hl : ds.length ≤ 60) (h : AllE ds) : GoodE (.lst ds) := let ⟨n, hn⟩ := h.lvl; ⟨n + 1, hl, hn⟩
theorem goodI (i : Int) : GoodE (.int i) := ⟨0, trivial⟩
theorem goodN : GoodE .non := ⟨0, trivial⟩
theorem goodB (b : Bool) : GoodE (.bl b) := ⟨0, trivial⟩
theorem goodS {x : Str} (h : (decide (x.length ≤ 60) && PyData.strOk x) = true) : GoodE (.str x) := ⟨0, good_s h⟩
theorem AllE.sub {a b : List D} (h : AllE b) (hs : ∀ d ∈ a, d ∈ b) : AllE a := fun d hd => h d (hs d hd)
def q0 (cs : Cs) : SS := (sSet 3 (eCall (f_Ldrawn_book cs) (aCons (eVar 0) (aCons (eVar 1) (aCons (eCst (.int 5)) (aCons (eCst (.int 4)) aNil))))))
def q1 (cs : Cs) : SS := (sAsg (eOpP dIdx (eVar 3) (eCst (.int 0))) (gSeqD 3 (ggCons (gVar 4) (ggCons (gVar 5) (ggCons (gVar 6) ggNil)))))
def q2 (cs : Cs) : SS := (sOwn 7 (eLst (aCons (eVar 3) (aCons (eRev (eVar 3)) (aCons (eOpP dAdd (eVar 3) (eSl (eVar 3) pNoP (pPt (pCst (.int 1))))) (aCons (eCallP dLstOf (aCons (eVar 3) aNil)) (aCons (eCst (.non)) (aCons (eTup aNil) (aCons (eOpP dIdx (eVar 3) (eCst (.int 0))) aNil)))))))))
def q3 (cs : Cs) : SS := (sOwn 7 (eAddF (eVar 7) (eFrz (eLst (aCons (eSl (eVar 3) pNoP (pPt (pCst (.int 1)))) (aCons (eTup (aCons (eTup (aCons (eCst (.str "z")) (aCons (eCst (.int 5)) (aCons (eTup aNil) aNil)))) aNil)) (aCons (eTup (aCons (eTup (aCons (eCst (.str "z")) (aCons (eCst (.int 6)) (aCons (eTup aNil) aNil)))) aNil)) aNil)))))))
def q4 (cs : Cs) : SS := (sSet 8 (eFrz (eLst (aCons (eTup (aCons (eCst (.str "zz")) (aCons (eCst (.int 1)) (aCons (eTup (aCons (eTup (aCons (eCst (.int 9999)) aNil)) (aCons (eTup (aCons (ePure (pUn dNeg (pCst (.int 9999)))) aNil)) aNil))) aNil)))) (aCons (eTup (aCons (eCst (.str "zz")) (aCons (eCst (.int 1)) (aCons (eTup (aCons (eTup (aCons (ePure (pUn dNeg (pCst (.int 9999)))) aNil)) (aCons (eTup (aCons (eCst (.int 9999)) aNil)) aNil))) aNil)))) aNil)))))
def q5 (cs : Cs) : SS := (sSet 8 (eOpP dAdd (eVar 8) (eFrz (eLst (aCons (eTup (aCons (eCst (.str "zz")) (aCons (eCst (.int 1)) (aCons (eTup (aCons (eTup (aCons (eCst (.int 10000)) aNil)) aNil)) aNil)))) (aCons (eTup (aCons (eCst (.str "zz")) (aCons (eCst (.int 1)) (aCons (eTup (aCons (eTup (aCons (eCst (.bl true)) aNil)) aNil)) aNil)))) aNil))))))
def q6 (cs : Cs) : SS := (sFor (iSeq (eVar 8)) (gVar 9) (sExpr (eMut "list" (oSlot 7) mAppend (aCons (eOpP dAdd (eVar 3) (eTup (aCons (eVar 9) aNil))) aNil))))
def q7 (cs : Cs) : SS := (sSet 10 (eFrz (eLst (aCons (eTup (aCons (eCst (.str "zz")) (aCons (eCst (.int 1)) (aCons (eTup (aCons (eTup (aCons (eCst (.int 0)) aNil)) (aCons (eTup (aCons (eCst (.int 0)) aNil)) aNil))) aNil)))) (aCons (eTup (aCons (eCst (.str "zzzzzzz")) (aCons (eCst (.int 1)) (aCons (eTup aNil) aNil)))) (aCons (eTup (aCons (eCst (.str "zzzzzz")) (aCons (eCst (.int 1)) (aCons (eTup aNil) aNil)))) aNil))))))
def q8 (cs : Cs) : SS := (sSet 10 (eOpP dAdd (eVar 10) (eFrz (eLst (aCons (eTup (aCons (eCst (.str "Z")) (aCons (eCst (.int 1)) (aCons (eTup aNil) aNil)))) (aCons (eTup (aCons (eCst (.str "zz")) (aCons (eCst (.int 2)) (aCons (eTup (aCons (eTup (aCons (eCst (.int 1)) aNil)) aNil)) aNil)))) (aCons (eTup (aCons (eCst (.str "zz")) (aCons (eCst (.int 0)) (aCons (eTup (aCons (eTup aNil) aNil)) aNil)))) aNil)))))))
def q9 (cs : Cs) : SS := (sFor (iSeq (eVar 10)) (gVar 9) (sExpr (eMut "list" (oSlot 7) mAppend (aCons (eOpP dAdd (eVar 3) (eTup (aCons (eVar 9) aNil))) aNil))))
def q10 (cs : Cs) : SS := (sOwn 7 (eAddF (eVar 7) (eFrz (eLst (aCons (eOpP dAdd (eVar 3) (eTup (aCons (eTup (aCons (eCst (.str "zz")) (aCons (eCst (.bl true)) (aCons (eTup aNil) aNil)))) aNil))) (aCons (eOpP dAdd (eVar 3) (eTup (aCons (eTup (aCons (eCst (.str "zz")) (aCons (eCst (.int 1)) (aCons (eFrz (eLst (aCons (eTup (aCons (eCst (.int 1)) aNil)) aNil))) aNil)))) aNil))) aNil))))))
def q11 (cs : Cs) : SS := (sOwn 7 (eAddF (eVar 7) (eFrz (eLst (aCons (eOpP dAdd (eVar 3) (eTup (aCons (eTup (aCons (eCst (.str "zz")) (aCons (eCst (.int 1)) (aCons (eTup (aCons (eFrz (eLst (aCons (eCst (.int 1)) aNil))) aNil)) aNil)))) aNil))) (aCons (eOpP dAdd (eVar 3) (eTup (aCons (eTup (aCons (eCst (.str "")) (aCons (eCst (.int 1)) (aCons (eTup aNil) aNil)))) aNil))) aNil))))))
def q12 (cs : Cs) : SS := (sOwn 7 (eAddF (eVar 7) (eFrz (eLst (aCons (eTup (aCons (eTup (aCons (eVar 4) (aCons (eVar 5) (aCons (eRev (eVar 6)) aNil)))) aNil)) (aCons (eTup (aCons (eTup (aCons (eVar 4) (aCons (eVar 5) (aCons (eOpP dAdd (eVar 6) (eSl (eVar 6) pNoP (pPt (pCst (.int 1))))) aNil)))) aNil)) aNil))))))
def q13 (cs : Cs) : SS := (sOwn 7 (eAddF (eVar 7) (eFrz (eComp (iRange (aCons (eCst (.int 8)) aNil)) (gVar 11) tYesD (eCall (f_Lbent cs) (aCons (eVar 0) (aCons (eVar 1) (aCons (eVar 3) aNil)))) [11]))))
def q14 (cs : Cs) : SS := (sIf (tNotE (tTruE (eCallP dAll (aCons (eFrz (eComp (iSeq (eVar 7)) (gVar 12) tYesD (eCall (f_Lsame cs) (aCons (eCall (f_is_book cs) (aCons (eVar 12) aNil)) (aCons (eCall (f_Lis_book cs) (aCons (eVar 12) aNil)) aNil))) [12])) aNil)))) (sRet (eCst (.bl false))) sNil)
def turnB (cs : Cs) : SS := (sSeq (q0 cs) (sSeq (q1 cs) (sSeq (q2 cs) (sSeq (q3 cs) (sSeq (q4 cs) (sSeq (q5 cs) (sSeq (q6 cs) (sSeq (q7 cs) (sSeq (q8 cs) (sSeq (q9 cs) (sSeq (q10 cs) (sSeq (q11 cs) (sSeq (q12 cs) (sSeq (q13 cs) (q14 cs)))))))))))))))

def xE (ns : List Int) (a2 a3 a4 a5 a6 a7 a8 a9 a10 : Option SV) : EV :=
  [some (.val (.lst (ns.map .int))), some (.val (.ref 0)), a2, a3, a4, a5, a6, a7, a8, a9, a10, none, none]
def vE (ns : List Int) (a2 : Option SV) (bs : List D) (w : Str) (k : Nat) (R : List D) (a7 a8 a9 a10 : Option SV) : EV :=
  [some (.val (.lst (ns.map .int))), some (.val (.ref 0)), a2, some (.val (.tup bs)), some (.val (.str w)), some (.val (.int (k : Nat))), some (.val (.tup R)), a7, a8, a9, a10, none, none]
/-- the book, its first table -/
structure Parts (bs : List D) (w : Str) (R : List D) : Prop where
  b : AllE bs
  lb : bs.length ≤ 10
  w : (decide (w.length ≤ 60) && PyData.strOk w) = true
  r : AllE R
  lr : R.length ≤ 10
section
variable (cs : Cs) {ns : List Int} {a2 a7 a8 a9 a10 : Option SV} {bs : List D} {w : Str} {k : Nat} {R : List D} {L : List D} {S : Sto}
theorem Parts.B (P : Parts bs w R) : GoodE (.tup bs) := .tup (by have := P.lb; omega) P.b
theorem Parts.add (P : Parts bs w R) {t : D} (h : GoodE t) : GoodE (.tup (bs ++ [t])) := .tup (by have := P.lb; rw [List.length_append]; simp; omega) (P.b.append (.cons h .nil))
theorem q2_ok (P : Parts bs w R) {b0 : D} (h0 : bs[0]? = some b0) : ∃ L, q2 cs (vE ns a2 bs w k R a7 a8 a9 a10) S = .nx (vE ns a2 bs w k R (some (.own (.lst L))) a8 a9 a10) S ∧ AllE L ∧ L.length = 7 := by
  have big := big60
  have lb := P.lb
  have c1 := @cut_len _ bs none (some 1)
  have e1 : eRev (eVar 3) (vE ns a2 bs w k R a7 a8 a9 a10) S = .ok (.tup bs.reverse) (vE ns a2 bs w k R a7 a8 a9 a10) S := eRev_ok rfl
  have e2 : eOpP dAdd (eVar 3) (eSl (eVar 3) pNoP (pPt (pCst (.int 1)))) (vE ns a2 bs w k R a7 a8 a9 a10) S = .ok (.tup (bs ++ dCut bs none (some 1))) (vE ns a2 bs w k R a7 a8 a9 a10) S :=
    eOpP_ok (x := .tup bs) (y := .tup (dCut bs none (some 1))) rfl rfl (dAdd_tup (by omega))
  have e3 : eOpP dIdx (eVar 3) (eCst (.int 0)) (vE ns a2 bs w k R a7 a8 a9 a10) S = .ok b0 (vE ns a2 bs w k R a7 a8 a9 a10) S := eOpP_ok (x := .tup bs) (y := .int 0) rfl rfl (dIdx_tup (by decide) h0)
  have ls : eLst (aCons (eVar 3) (aCons (eRev (eVar 3)) (aCons (eOpP dAdd (eVar 3) (eSl (eVar 3) pNoP (pPt (pCst (.int 1))))) (aCons (eCallP dLstOf (aCons (eVar 3) aNil)) (aCons (eCst (.non)) (aCons (eTup aNil) (aCons (eOpP dIdx (eVar 3) (eCst (.int 0))) aNil))))))) (vE ns a2 bs w k R a7 a8 a9 a10) S = .ok (.lst [.tup bs, .tup bs.reverse, .tup (bs ++ dCut bs none (some 1)), .lst bs, .non, .tup [], b0]) (vE ns a2 bs w k R a7 a8 a9 a10) S :=
    eLst_ok (aCons_ok (x := .tup bs) rfl (aCons_ok e1 (aCons_ok e2 (aCons_ok (x := .lst bs) rfl (aCons_ok (x := .non) rfl (aCons_ok (x := .tup []) rfl (aCons_ok e3 (g := aNil) rfl)))))))
  refine ⟨[.tup bs, .tup bs.reverse, .tup (bs ++ dCut bs none (some 1)), .lst bs, .non, .tup [], b0],
    (sOwn_ok ls).trans rfl, ?_, rfl⟩
  have g0 : GoodE b0 := P.b b0 (List.mem_of_getElem? h0)
  refine .cons P.B (.cons (.tup (by rw [List.length_reverse]; omega) (P.b.sub fun d hd => List.mem_reverse.mp hd)) (.cons (.tup (by rw [List.length_append]; omega) (P.b.append (P.b.sub fun d hd => cut_mem hd))) (.cons (.lst (by omega) P.b) ?_)))
  repeat (any_goals (first | exact goodI _ | exact goodN | exact goodB _ | exact AllE.nil | exact goodS (by decide +kernel) | assumption | refine GoodE.tup (by simp) ?_ | refine GoodE.lst (by simp) ?_ | refine AllE.cons ?_ ?_))
theorem more_ok {g : ES D} {b : List D} {ε : EV} (hε : ε = vE ns a2 bs w k R (some (.val (.lst L))) a8 a9 a10) (h : g ε S = .ok (.lst b) ε S) (hl : L.length + b.length ≤ 60) :
    sOwn 7 (eAddF (eVar 7) g) (vE ns a2 bs w k R (some (.own (.lst L))) a8 a9 a10) S = .nx (vE ns a2 bs w k R (some (.own (.lst (L ++ b)))) a8 a9 a10) S := by
  subst hε
  have e : eVar 7 (vE ns a2 bs w k R (some (.own (.lst L))) a8 a9 a10) S = .ok (.lst L) (vE ns a2 bs w k R (some (.val (.lst L))) a8 a9 a10) S := rfl
  exact (sOwn_ok (eAddF_ok e h (Nat.le_trans hl big60))).trans rfl
theorem q3_ok (P : Parts bs w R) (hL : AllE L) (hl : L.length ≤ 50) : ∃ b, q3 cs (vE ns a2 bs w k R (some (.own (.lst L))) a8 a9 a10) S = .nx (vE ns a2 bs w k R (some (.own (.lst (L ++ b)))) a8 a9 a10) S ∧ AllE (L ++ b) ∧ b.length = 3 := by
  have c1 := @cut_len _ bs none (some 1)
  have lb := P.lb
  refine ⟨[.tup (dCut bs none (some 1)), .tup [.tup [.str "z", .int 5, .tup []]], .tup [.tup [.str "z", .int 6, .tup []]]], more_ok rfl rfl (by simp; omega), hL.append (.cons (.tup (by omega) (P.b.sub fun d hd => cut_mem hd)) ?_), rfl⟩
  repeat (any_goals (first | exact goodI _ | exact goodN | exact goodB _ | exact AllE.nil | exact goodS (by decide +kernel) | assumption | refine GoodE.tup (by simp) ?_ | refine GoodE.lst (by simp) ?_ | refine AllE.cons ?_ ?_))
theorem q4_ok : ∃ EA, q4 cs (vE ns a2 bs w k R a7 a8 a9 a10) S = .nx (vE ns a2 bs w k R a7 (some (.val (.lst EA))) a9 a10) S ∧ AllE EA ∧ EA.length = 2 :=
  ⟨[.tup [.str "zz", .int 1, .tup [.tup [.int 9999], .tup [.int (-9999)]]], .tup [.str "zz", .int 1, .tup [.tup [.int (-9999)], .tup [.int 9999]]]], rfl, (by repeat (any_goals (first | exact goodI _ | exact goodN | exact goodB _ | exact AllE.nil | exact goodS (by decide +kernel) | assumption | refine GoodE.tup (by simp) ?_ | refine GoodE.lst (by simp) ?_ | refine AllE.cons ?_ ?_))), rfl⟩
theorem q5_ok {EA : List D} (hE : AllE EA) (hl : EA.length = 2) : ∃ EA', q5 cs (vE ns a2 bs w k R a7 (some (.val (.lst EA))) a9 a10) S = .nx (vE ns a2 bs w k R a7 (some (.val (.lst EA'))) a9 a10) S ∧ AllE EA' ∧ EA'.length = 4 := by
  have big := big60
  refine ⟨EA ++ [.tup [.str "zz", .int 1, .tup [.tup [.int 10000]]], .tup [.str "zz", .int 1, .tup [.tup [.bl true]]]], (sSet_ok (eOpP_ok (x := .lst EA) (y := .lst [.tup [.str "zz", .int 1, .tup [.tup [.int 10000]]], .tup [.str "zz", .int 1, .tup [.tup [.bl true]]]]) rfl rfl (dAdd_lst (by simp only [List.length_cons, List.length_nil]; omega)))).trans rfl, hE.append (by repeat (any_goals (first | exact goodI _ | exact goodN | exact goodB _ | exact AllE.nil | exact goodS (by decide +kernel) | assumption | refine GoodE.tup (by simp) ?_ | refine GoodE.lst (by simp) ?_ | refine AllE.cons ?_ ?_))), by simp [hl]⟩
theorem q7_ok : ∃ EA, q7 cs (vE ns a2 bs w k R a7 a8 a9 a10) S = .nx (vE ns a2 bs w k R a7 a8 a9 (some (.val (.lst EA)))) S ∧ AllE EA ∧ EA.length = 3 :=
  ⟨[.tup [.str "zz", .int 1, .tup [.tup [.int 0], .tup [.int 0]]], .tup [.str "zzzzzzz", .int 1, .tup []], .tup [.str "zzzzzz", .int 1, .tup []]], rfl, (by repeat (any_goals (first | exact goodI _ | exact goodN | exact goodB _ | exact AllE.nil | exact goodS (by decide +kernel) | assumption | refine GoodE.tup (by simp) ?_ | refine GoodE.lst (by simp) ?_ | refine AllE.cons ?_ ?_))), rfl⟩
theorem q8_ok {EA : List D} (hE : AllE EA) (hl : EA.length = 3) : ∃ EA', q8 cs (vE ns a2 bs w k R a7 a8 a9 (some (.val (.lst EA)))) S = .nx (vE ns a2 bs w k R a7 a8 a9 (some (.val (.lst EA')))) S ∧ AllE EA' ∧ EA'.length = 6 := by
  have big := big60
  refine ⟨EA ++ [.tup [.str "Z", .int 1, .tup []], .tup [.str "zz", .int 2, .tup [.tup [.int 1]]], .tup [.str "zz", .int 0, .tup [.tup []]]], (sSet_ok (eOpP_ok (x := .lst EA) (y := .lst [.tup [.str "Z", .int 1, .tup []], .tup [.str "zz", .int 2, .tup [.tup [.int 1]]], .tup [.str "zz", .int 0, .tup [.tup []]]]) rfl rfl (dAdd_lst (by simp only [List.length_cons, List.length_nil]; omega)))).trans rfl, hE.append (by repeat (any_goals (first | exact goodI _ | exact goodN | exact goodB _ | exact AllE.nil | exact goodS (by decide +kernel) | assumption | refine GoodE.tup (by simp) ?_ | refine GoodE.lst (by simp) ?_ | refine AllE.cons ?_ ?_))), by simp [hl]⟩
theorem loop_ok (P : Parts bs w R) {it : ES (List D)} {EA : List D} (hit : it (vE ns a2 bs w k R (some (.own (.lst L))) a8 a9 a10) S = .ok EA (vE ns a2 bs w k R (some (.own (.lst L))) a8 a9 a10) S) (hE : AllE EA) (hl : L.length + EA.length ≤ 50) (hL : AllE L) :
    ∃ L' b9, sFor it (gVar 9) (sExpr (eMut "list" (oSlot 7) mAppend (aCons (eOpP dAdd (eVar 3) (eTup (aCons (eVar 9) aNil))) aNil))) (vE ns a2 bs w k R (some (.own (.lst L))) a8 a9 a10) S = .nx (vE ns a2 bs w k R (some (.own (.lst L'))) a8 b9 a10) S ∧ AllE L' ∧ L'.length = L.length + EA.length := by
  have big : (70 : Nat) ≤ sizeLine := by decide
  have lb := P.lb
  obtain ⟨ε', S', run, L', b9, e1, e2, h1, h2⟩ := for_inv (g := gVar 9) (b := sExpr (eMut "list" (oSlot 7) mAppend (aCons (eOpP dAdd (eVar 3) (eTup (aCons (eVar 9) aNil))) aNil)))
    (fun j ε S' => ∃ (L' : List D) (b9 : Option SV), ε = vE ns a2 bs w k R (some (.own (.lst L'))) a8 b9 a10 ∧ S' = S ∧ AllE L' ∧ L'.length = L.length + j) EA 0 (vE ns a2 bs w k R (some (.own (.lst L))) a8 a9 a10) S ⟨L, a9, rfl, rfl, hL, by omega⟩
    (by
      rintro j d ε S1 hd ⟨L', b9, rfl, rfl, h1, h2⟩
      have hdm := List.mem_of_getElem? hd
      have hj := (List.getElem?_eq_some_iff.mp hd).1
      have gd := hE d hdm
      have ad : eOpP dAdd (eVar 3) (eTup (aCons (eVar 9) aNil)) (vE ns a2 bs w k R (some (.own (.lst L'))) a8 (some (.val d)) a10) S1 = .ok (.tup (bs ++ [d])) (vE ns a2 bs w k R (some (.own (.lst L'))) a8 (some (.val d)) a10) S1 :=
        eOpP_ok (x := .tup bs) (y := .tup [d]) rfl rfl (dAdd_tup (by simp only [List.length_cons, List.length_nil]; omega))
      have g7 : getM (.slot 7) (vE ns a2 bs w k R (some (.own (.lst L'))) a8 (some (.val d)) a10) S1 = some (.lst L') := rfl
      refine ⟨_, _, rfl, _, _, .inl ((sExpr_ok (eMut_ok (m' := .lst (L' ++ [.tup (bs ++ [d])])) (d := .non) (oSlot_ok g7) g7 rfl (aCons_ok ad (g := aNil) rfl) g7 (mAppend_lt (by omega)))).trans rfl), L' ++ [.tup (bs ++ [d])], some (.val d), rfl, rfl, h1.append (.cons (P.add gd) .nil), by simp only [List.length_append, List.length_cons, List.length_nil]; omega⟩)
  subst e1; subst e2
  exact ⟨L', b9, sFor_ok hit run, h1, by omega⟩
theorem add_tab (P : Parts bs w R) {ft : ES D} {t : D} (h : ft (vE ns a2 bs w k R a7 a8 a9 a10) S = .ok t (vE ns a2 bs w k R a7 a8 a9 a10) S) :
    eOpP dAdd (eVar 3) (eTup (aCons ft aNil)) (vE ns a2 bs w k R a7 a8 a9 a10) S = .ok (.tup (bs ++ [t])) (vE ns a2 bs w k R a7 a8 a9 a10) S :=
  eOpP_ok (x := .tup bs) (y := .tup [t]) rfl (eTup_ok (aCons_ok h (g := aNil) rfl)) (dAdd_tup (by have := P.lb; have := big60; simp only [List.length_cons, List.length_nil]; omega))
theorem q10_ok (P : Parts bs w R) (hL : AllE L) (hl : L.length ≤ 50) : ∃ b, q10 cs (vE ns a2 bs w k R (some (.own (.lst L))) a8 a9 a10) S = .nx (vE ns a2 bs w k R (some (.own (.lst (L ++ b)))) a8 a9 a10) S ∧ AllE (L ++ b) ∧ b.length = 2 :=
  ⟨[.tup (bs ++ [.tup [.str "zz", .bl true, .tup []]]), .tup (bs ++ [.tup [.str "zz", .int 1, .lst [.tup [.int 1]]]])],
    more_ok rfl (eFrz_ok (m := .lst _) (eLst_ok (aCons_ok (add_tab P rfl) (aCons_ok (add_tab P rfl) (g := aNil) rfl)))) (by simp; omega), hL.append (.cons (P.add (by repeat (any_goals (first | exact goodI _ | exact goodN | exact goodB _ | exact AllE.nil | exact goodS (by decide +kernel) | assumption | refine GoodE.tup (by simp) ?_ | refine GoodE.lst (by simp) ?_ | refine AllE.cons ?_ ?_)))) (.cons (P.add (by repeat (any_goals (first | exact goodI _ | exact goodN | exact goodB _ | exact AllE.nil | exact goodS (by decide +kernel) | assumption | refine GoodE.tup (by simp) ?_ | refine GoodE.lst (by simp) ?_ | refine AllE.cons ?_ ?_)))) .nil)), rfl⟩
theorem q11_ok (P : Parts bs w R) (hL : AllE L) (hl : L.length ≤ 50) : ∃ b, q11 cs (vE ns a2 bs w k R (some (.own (.lst L))) a8 a9 a10) S = .nx (vE ns a2 bs w k R (some (.own (.lst (L ++ b)))) a8 a9 a10) S ∧ AllE (L ++ b) ∧ b.length = 2 :=
  ⟨[.tup (bs ++ [.tup [.str "zz", .int 1, .tup [.lst [.int 1]]]]), .tup (bs ++ [.tup [.str "", .int 1, .tup []]])],
    more_ok rfl (eFrz_ok (m := .lst _) (eLst_ok (aCons_ok (add_tab P rfl) (aCons_ok (add_tab P rfl) (g := aNil) rfl)))) (by simp; omega), hL.append (.cons (P.add (by repeat (any_goals (first | exact goodI _ | exact goodN | exact goodB _ | exact AllE.nil | exact goodS (by decide +kernel) | assumption | refine GoodE.tup (by simp) ?_ | refine GoodE.lst (by simp) ?_ | refine AllE.cons ?_ ?_)))) (.cons (P.add (by repeat (any_goals (first | exact goodI _ | exact goodN | exact goodB _ | exact AllE.nil | exact goodS (by decide +kernel) | assumption | refine GoodE.tup (by simp) ?_ | refine GoodE.lst (by simp) ?_ | refine AllE.cons ?_ ?_)))) .nil)), rfl⟩
theorem q12_ok (P : Parts bs w R) (hL : AllE L) (hl : L.length ≤ 50) : ∃ b, q12 cs (vE ns a2 bs w k R (some (.own (.lst L))) a8 a9 a10) S = .nx (vE ns a2 bs w k R (some (.own (.lst (L ++ b)))) a8 a9 a10) S ∧ AllE (L ++ b) ∧ b.length = 2 := by
  have c1 := @cut_len _ R none (some 1)
  have lr := P.lr
  have big := big60
  have gw : GoodE (.str w) := goodS P.w
  have g1 : GoodE (.tup R.reverse) := .tup (by rw [List.length_reverse]; omega) (P.r.sub fun d hd => List.mem_reverse.mp hd)
  have g2 : GoodE (.tup (R ++ dCut R none (some 1))) := .tup (by rw [List.length_append]; omega) (P.r.append (P.r.sub fun d hd => cut_mem hd))
  have e1 : eRev (eVar 6) (vE ns a2 bs w k R (some (.val (.lst L))) a8 a9 a10) S = .ok (.tup R.reverse) (vE ns a2 bs w k R (some (.val (.lst L))) a8 a9 a10) S := eRev_ok rfl
  have e2 : eOpP dAdd (eVar 6) (eSl (eVar 6) pNoP (pPt (pCst (.int 1)))) (vE ns a2 bs w k R (some (.val (.lst L))) a8 a9 a10) S = .ok (.tup (R ++ dCut R none (some 1))) (vE ns a2 bs w k R (some (.val (.lst L))) a8 a9 a10) S :=
    eOpP_ok (x := .tup R) (y := .tup (dCut R none (some 1))) rfl rfl (dAdd_tup (by omega))
  refine ⟨[.tup [.tup [.str w, .int (k : Nat), .tup R.reverse]], .tup [.tup [.str w, .int (k : Nat), .tup (R ++ dCut R none (some 1))]]],
    more_ok rfl (eFrz_ok (m := .lst _) (eLst_ok (aCons_ok (eTup_ok (aCons_ok (eTup_ok (aCons_ok (x := .str w) rfl (aCons_ok (x := .int (k : Nat)) rfl (aCons_ok e1 (g := aNil) rfl)))) (g := aNil) rfl)) (aCons_ok (eTup_ok (aCons_ok (eTup_ok (aCons_ok (x := .str w) rfl (aCons_ok (x := .int (k : Nat)) rfl (aCons_ok e2 (g := aNil) rfl)))) (g := aNil) rfl)) (g := aNil) rfl)))) (by simp; omega), hL.append ?_, rfl⟩
  repeat (any_goals (first | exact goodI _ | exact goodN | exact goodB _ | exact AllE.nil | exact goodS (by decide +kernel) | assumption | refine GoodE.tup (by simp) ?_ | refine GoodE.lst (by simp) ?_ | refine AllE.cons ?_ ?_))
theorem q13_ok {T : List Int} (hR : Raw 4 (.tup bs)) (hL : AllE L) (hl : L.length ≤ 50) (h : S[0]? = some (.lst (T.map .int))) (hT : T.length + 400 < sizeLine) (hns : ns.length ≤ 63) :
    ∃ (b : List D) (T' : List Int), q13 cs (vE ns a2 bs w k R (some (.own (.lst L))) a8 a9 a10) S = .nx (vE ns a2 bs w k R (some (.own (.lst (L ++ b)))) a8 a9 a10) (S.set 0 (.lst (T'.map .int))) ∧ AllE (L ++ b) ∧ b.length = 8 ∧ T'.length ≤ T.length + 240 := by
  have hn : 0 < S.length := (List.getElem?_eq_some_iff.mp h).1
  have big := big60
  obtain ⟨ys, S', h1, ⟨T', e1, e2⟩, h3, h4⟩ := comp_inv (f := eCall (f_Lbent cs) (aCons (eVar 0) (aCons (eVar 1) (aCons (eVar 3) aNil)))) (i := 11) (ε := vE ns a2 bs w k R (some (.val (.lst L))) a8 a9 a10) (fun j S' => ∃ T' : List Int, S' = S.set 0 (.lst (T'.map .int)) ∧ T'.length ≤ T.length + 30 * j) (fun _ y => GoodE y) (rngD 0 8) 0 S ⟨T, (set_self h).symm, by omega⟩
    (fun j d S1 hd ⟨T1, f1, f2⟩ => by
      subst f1
      have hj := (rng_at hd).1
      obtain ⟨d', T2, b1, b2, b3⟩ := bent_spec cs ns 0 hns 4 6 (.tup bs) T1 (S.set 0 (.lst (T1.map .int))) hR (by omega) (set_at hn) (by omega)
      rw [List.set_set] at b1
      exact ⟨d', _, eCall_ok (ds := [.lst (ns.map .int), .ref 0, .tup bs]) rfl b1, ⟨T2, rfl, by omega⟩, ⟨_, b2⟩⟩)
  subst e1
  rw [rng_len] at e2 h3
  have it : iRange (aCons (eCst (.int 8)) aNil) (vE ns a2 bs w k R (some (.val (.lst L))) a8 a9 a10) S = .ok (rngD 0 8) (vE ns a2 bs w k R (some (.val (.lst L))) a8 a9 a10) S := iRange1_ok (j := 8) rfl (rngOk_nat (n := 8) (by decide))
  have co : eFrz (eComp (iRange (aCons (eCst (.int 8)) aNil)) (gVar 11) tYesD (eCall (f_Lbent cs) (aCons (eVar 0) (aCons (eVar 1) (aCons (eVar 3) aNil)))) [11]) (vE ns a2 bs w k R (some (.val (.lst L))) a8 a9 a10) S = .ok (.lst ys) (vE ns a2 bs w k R (some (.val (.lst L))) a8 a9 a10) (S.set 0 (.lst (T'.map .int))) := (eFrz_ok (eComp_ok it h1)).trans rfl
  have e : eVar 7 (vE ns a2 bs w k R (some (.own (.lst L))) a8 a9 a10) S = .ok (.lst L) (vE ns a2 bs w k R (some (.val (.lst L))) a8 a9 a10) S := rfl
  refine ⟨ys, T', (sOwn_ok (eAddF_ok e co (by omega))).trans rfl, hL.append fun y hy => ?_, by simpa using h3, by omega⟩
  obtain ⟨j, hj, ej⟩ := List.getElem_of_mem hy
  have k1 := List.getElem?_eq_getElem hj
  rw [ej] at k1
  exact h4 j _ y (List.getElem?_eq_getElem (show j < (rngD 0 8).length by rw [rng_len]; omega)) k1
theorem q14_ok (hL : AllE L) : q14 cs (vE ns a2 bs w k R (some (.own (.lst L))) a8 a9 a10) S = .nx (vE ns a2 bs w k R (some (.val (.lst L))) a8 a9 a10) S := by
  have al := all_comp2 (i := 12) (it := iSeq (eVar 7)) (f := eCall (f_Lsame cs) (aCons (eCall (f_is_book cs) (aCons (eVar 12) aNil)) (aCons (eCall (f_Lis_book cs) (aCons (eVar 12) aNil)) aNil))) (B := fun _ => true) (ds := L) (ε := vE ns a2 bs w k R (some (.own (.lst L))) a8 a9 a10) (ε1 := vE ns a2 bs w k R (some (.val (.lst L))) a8 a9 a10) (S := S)
    (iSeq_ok (f := eVar 7) (x := .lst L) rfl rfl) (fun d hd => by
      obtain ⟨n, gd⟩ := hL d hd
      have c1 := eCall_ok (F := f_is_book cs) (fa := aCons (eVar 12) aNil) (ε := (wipeE (vE ns a2 bs w k R (some (.val (.lst L))) a8 a9 a10) [12]).set 12 (some (.val d))) (S := S) (ds := [d]) rfl (is_book_spec cs gd S)
      have c2 := eCall_ok (F := f_Lis_book cs) (fa := aCons (eVar 12) aNil) (ε := (wipeE (vE ns a2 bs w k R (some (.val (.lst L))) a8 a9 a10) [12]).set 12 (some (.val d))) (S := S) (ds := [d]) rfl (Lis_book_spec cs gd S)
      exact eCall_ok (aCons_ok c1 (aCons_ok c2 (g := aNil) rfl)) (same_bl cs 5 _ S)) rfl
  have e : (L.all fun _ => true) = true := by simp
  rw [e] at al
  exact sIf_f (tNotE_ok (tTruE_ok al rfl)) rfl
end
end LW
namespace LW
open DL L2 PyProof.Rows PySem PySem.Spec
variable [TabT]
theorem words_ok {tabs : List Tab} (hw : tabs.map (·.1) = words4 ∨ tabs.map (·.1) = words4.drop 1) {t : Tab} (ht : t ∈ tabs) : t.1.length ≤ 60 ∧ PyData.strOk t.1 = true := by
  have hm : t.1 ∈ tabs.map (·.1) := List.mem_map.mpr ⟨t, ht, rfl⟩
  refine strOk_words _ ?_
  rcases hw with e | e
  · rw [← e]; exact hm
  · rw [e] at hm; exact List.mem_of_mem_drop hm
theorem raw_str {n : Nat} {x : Str} (h : x.length ≤ 60 ∧ PyData.strOk x = true) : Raw n (.str x) := by cases n <;> exact h
theorem row_raw {k : Nat} {far : Int} {r : List Int} (hk : k ≤ 3) (hf : far ≤ 9) (h : RowOk k far r) : Raw 1 (rowD r) := by
  obtain ⟨h1, h2⟩ := h
  refine ⟨by rw [List.length_map]; omega, fun d hd => ?_⟩
  obtain ⟨i, hi, rfl⟩ := List.mem_map.mp hd
  have := h2 i hi
  exact ⟨by omega, by omega⟩
theorem tab_raw {most : Nat} {far : Int} {t : Tab} (hm : most ≤ 10) (hf : far ≤ 9) (hw : t.1.length ≤ 60 ∧ PyData.strOk t.1 = true) (h : TabOk most far t) : Raw 3 (tabD t) := by
  obtain ⟨h1, h2, h3, h4, _, _⟩ := h
  refine ⟨by simp, fun d hd => ?_⟩
  simp only [List.mem_cons, List.not_mem_nil, or_false] at hd
  rcases hd with e | e | e
  · rw [e]; exact raw_str hw
  · rw [e]; exact ⟨by omega, by omega⟩
  · rw [e]
    refine ⟨by rw [List.length_map]; omega, fun d hd => ?_⟩
    obtain ⟨r, hr, rfl⟩ := List.mem_map.mp hd
    exact row_raw h2 hf (h3 r hr)
theorem turn_spec (cs : Cs) (ns T : List Int) (S : Sto) (a2 a3 a4 a5 a6 a7 a8 a9 a10 : Option SV) (h : S[0]? = some (.lst (T.map .int))) (hT : T.length + 1000 < sizeLine) (hns : ns.length ≤ 63) :
    ∃ (T' : List Int) (b3 b4 b5 b6 b7 b8 b9 b10 : Option SV), turnB cs (xE ns a2 a3 a4 a5 a6 a7 a8 a9 a10) S = .nx (xE ns a2 b3 b4 b5 b6 b7 b8 b9 b10) (S.set 0 (.lst (T'.map .int))) ∧ T'.length ≤ T.length + 500 := by
  have hn : 0 < S.length := (List.getElem?_eq_some_iff.mp h).1
  have big := big60
  obtain ⟨tabs, T1, e1, htab, hw, l1⟩ := book_spec cs ns T S 5 4 h (by omega) (by decide) (by decide) hns
  have hl : tabs.length = 4 ∨ tabs.length = 3 := by
    rcases hw with e | e
    · have := congrArg List.length e
      rw [List.length_map] at this
      exact .inl this
    · have := congrArg List.length e
      rw [List.length_map] at this
      exact .inr this
  have h2 : (S.set 0 (.lst (T1.map .int)))[0]? = some (.lst (T1.map .int)) := set_at hn
  generalize hS : S.set 0 (.lst (T1.map .int)) = S2 at h2 e1
  obtain ⟨⟨w, k, rs⟩, rest, et⟩ : ∃ t rest, tabs = t :: rest := by
    cases tabs with
    | nil => simp at hl
    | cons t rest => exact ⟨t, rest, rfl⟩
  have hm0 : (w, k, rs) ∈ tabs := by rw [et]; simp
  have tk := htab _ hm0
  have rawT : ∀ d ∈ tabs.map tabD, Raw 3 d := fun d hd => by
    obtain ⟨t, ht, rfl⟩ := List.mem_map.mp hd
    exact tab_raw (by decide) (by decide) (words_ok hw ht) (htab t ht)
  have hR : Raw 4 (.tup (tabs.map tabD)) := ⟨by rw [List.length_map]; omega, rawT⟩
  have wk := words_ok hw hm0
  have P : Parts (tabs.map tabD) w (rs.map rowD) := by
    refine ⟨fun d hd => ⟨3, (rawT d hd).good⟩, by rw [List.length_map]; omega, by rw [decide_eq_true wk.1, wk.2]; rfl, fun d hd => ?_, by rw [List.length_map]; have : rs.length ≤ 5 := tk.2.2.2.1; omega⟩
    obtain ⟨r, hr, rfl⟩ := List.mem_map.mp hd
    exact ⟨1, (row_raw tk.2.1 (by decide) (tk.2.2.1 r hr)).good⟩
  have h0 : (tabs.map tabD)[0]? = some (tabD (w, k, rs)) := by rw [et]; rfl
  have s0 : q0 cs (xE ns a2 a3 a4 a5 a6 a7 a8 a9 a10) S = .nx (xE ns a2 (some (.val (.tup (tabs.map tabD)))) a4 a5 a6 a7 a8 a9 a10) S2 :=
    (sSet_ok (eCall_ok (ds := [.lst (ns.map .int), .ref 0, .int (5 : Nat), .int 4]) rfl e1)).trans rfl
  have s1 : q1 cs (xE ns a2 (some (.val (.tup (tabs.map tabD)))) a4 a5 a6 a7 a8 a9 a10) S2 = .nx (vE ns a2 (tabs.map tabD) w k (rs.map rowD) a7 a8 a9 a10) S2 := by
    have i0 : eOpP dIdx (eVar 3) (eCst (.int 0)) (xE ns a2 (some (.val (.tup (tabs.map tabD)))) a4 a5 a6 a7 a8 a9 a10) S2 = .ok (tabD (w, k, rs)) (xE ns a2 (some (.val (.tup (tabs.map tabD)))) a4 a5 a6 a7 a8 a9 a10) S2 :=
      eOpP_ok (x := .tup (tabs.map tabD)) (y := .int 0) rfl rfl (dIdx_tup (by decide) h0)
    exact sAsg_ok i0 (gSeq_tup rfl (ggCons_ok rfl (ggCons_ok rfl (ggCons_ok rfl rfl))))
  obtain ⟨L2, s2, g2, n2⟩ := q2_ok cs (ns := ns) (a2 := a2) (a7 := a7) (a8 := a8) (a9 := a9) (a10 := a10) (k := k) (S := S2) P h0
  obtain ⟨c3, s3, g3, n3⟩ := q3_ok cs (ns := ns) (a2 := a2) (a8 := a8) (a9 := a9) (a10 := a10) (k := k) (S := S2) P g2 (by omega)
  obtain ⟨E4, s4, g4, n4⟩ := q4_ok cs (ns := ns) (a2 := a2) (a7 := some (.own (.lst (L2 ++ c3)))) (a8 := a8) (a9 := a9) (a10 := a10) (bs := tabs.map tabD) (w := w) (k := k) (R := rs.map rowD) (S := S2)
  obtain ⟨E5, s5, g5, n5⟩ := q5_ok cs (ns := ns) (a2 := a2) (a7 := some (.own (.lst (L2 ++ c3)))) (a9 := a9) (a10 := a10) (bs := tabs.map tabD) (w := w) (k := k) (R := rs.map rowD) (S := S2) g4 n4
  have n3' : (L2 ++ c3).length = 10 := by rw [List.length_append]; omega
  obtain ⟨L6, b9, s6, g6, n6⟩ := loop_ok (ns := ns) (a2 := a2) (a8 := some (.val (.lst E5))) (a9 := a9) (a10 := a10) (k := k) (S := S2) P (it := iSeq (eVar 8)) (iSeq_ok (x := .lst E5) rfl rfl) g5 (by omega) g3
  obtain ⟨E7, s7, g7, n7⟩ := q7_ok cs (ns := ns) (a2 := a2) (a7 := some (.own (.lst L6))) (a8 := some (.val (.lst E5))) (a9 := b9) (a10 := a10) (bs := tabs.map tabD) (w := w) (k := k) (R := rs.map rowD) (S := S2)
  obtain ⟨E8, s8, g8, n8⟩ := q8_ok cs (ns := ns) (a2 := a2) (a7 := some (.own (.lst L6))) (a8 := some (.val (.lst E5))) (a9 := b9) (bs := tabs.map tabD) (w := w) (k := k) (R := rs.map rowD) (S := S2) g7 n7
  obtain ⟨L9, c9, s9, g9, n9⟩ := loop_ok (ns := ns) (a2 := a2) (a8 := some (.val (.lst E5))) (a9 := b9) (a10 := some (.val (.lst E8))) (k := k) (S := S2) P (it := iSeq (eVar 10)) (iSeq_ok (x := .lst E8) rfl rfl) g8 (by omega) g6
  obtain ⟨b10, s10, g10, n10⟩ := q10_ok cs (ns := ns) (a2 := a2) (a8 := some (.val (.lst E5))) (a9 := c9) (a10 := some (.val (.lst E8))) (k := k) (S := S2) P g9 (by omega)
  have m10 : (L9 ++ b10).length = 22 := by rw [List.length_append]; omega
  obtain ⟨b11, s11, g11, n11⟩ := q11_ok cs (ns := ns) (a2 := a2) (a8 := some (.val (.lst E5))) (a9 := c9) (a10 := some (.val (.lst E8))) (k := k) (S := S2) P g10 (by omega)
  have m11 : ((L9 ++ b10) ++ b11).length = 24 := by rw [List.length_append]; omega
  obtain ⟨b12, s12, g12, n12⟩ := q12_ok cs (ns := ns) (a2 := a2) (a8 := some (.val (.lst E5))) (a9 := c9) (a10 := some (.val (.lst E8))) (k := k) (S := S2) P g11 (by omega)
  have m12 : (((L9 ++ b10) ++ b11) ++ b12).length = 26 := by rw [List.length_append]; omega
  obtain ⟨b13, T3, s13, g13, n13, l3⟩ := q13_ok cs (ns := ns) (a2 := a2) (a8 := some (.val (.lst E5))) (a9 := c9) (a10 := some (.val (.lst E8))) (w := w) (k := k) (R := rs.map rowD) (S := S2) hR g12 (by omega) h2 (by omega) hns
  have s14 := q14_ok cs (ns := ns) (a2 := a2) (a8 := some (.val (.lst E5))) (a9 := c9) (a10 := some (.val (.lst E8))) (bs := tabs.map tabD) (w := w) (k := k) (R := rs.map rowD) (S := S2.set 0 (.lst (T3.map .int))) g13
  have eS : S2.set 0 (.lst (T3.map .int)) = S.set 0 (.lst (T3.map .int)) := by rw [← hS, List.set_set]
  rw [eS] at s13 s14
  exact ⟨T3, _, _, _, _, _, _, _, _, sSeq_nx s0 (sSeq_nx s1 (sSeq_nx s2 (sSeq_nx s3 (sSeq_nx s4 (sSeq_nx s5 (sSeq_nx s6 (sSeq_nx s7 (sSeq_nx s8 (sSeq_nx s9 (sSeq_nx s10 (sSeq_nx s11 (sSeq_nx s12 (sSeq_nx s13 s14))))))))))))), by omega⟩
theorem law_true (cs : Cs) (ns : List Int) (hl : ns.length ≤ 63) : ∃ S', f_law cs [.lst (ns.map D.int)] [] = .ok (.bl true) S' := by
  have big : (10000 : Nat) < sizeLine := by rw [sizeLine_eq]; decide
  have loop := for_inv (g := gVar 2) (b := turnB cs) (fun k ε S => ∃ (T : List Int) (a2 a3 a4 a5 a6 a7 a8 a9 a10 : Option SV), ε = xE ns a2 a3 a4 a5 a6 a7 a8 a9 a10 ∧ S[0]? = some (.lst (T.map .int)) ∧ T.length ≤ k * 500)
    (rngD 0 6) 0 (xE ns none none none none none none none none none) [.lst []] ⟨[], none, none, none, none, none, none, none, none, none, rfl, rfl, by simp⟩
    (by
      rintro j d ε S hd ⟨T, a2, a3, a4, a5, a6, a7, a8, a9, a10, rfl, h1, h2⟩
      have hj := (rng_at hd).1
      have hn : 0 < S.length := (List.getElem?_eq_some_iff.mp h1).1
      obtain ⟨T', b3, b4, b5, b6, b7, b8, b9, b10, h3, h4⟩ := turn_spec cs ns T S (some (.val d)) a3 a4 a5 a6 a7 a8 a9 a10 h1 (by omega) hl
      exact ⟨_, _, rfl, _, _, .inl h3, T', _, _, _, _, _, _, _, _, _, rfl, set_at hn, by omega⟩)
  obtain ⟨ε', S', h1, _⟩ := loop
  exact ⟨S', semOf_rt (sSeq_nx (sSet_ok (eNew_ok (eLst_ok rfl))) (sSeq_nx (sFor_ok (iRange1_ok (aCons_ok rfl rfl) (rngOk_nat (n := 6) (by decide))) h1) (sRet_ok rfl)))⟩
end LW
namespace LW
open DL L2 PyProof.Rows PySem PySem.Spec
theorem all_mk {K : PySem.W.Frag} {h : Heap} {mg : Str → Option Value} {fa f1 f2 f3 f4 f5 f6 f7 f8 f9 f10 f11 f12 f13 f14 f15 : Addr} (X : K.In h) (G : h.Ns mainGlobals mg) (hfa : mg "law" = some (.ref fa))
    {od1 an1 od2 an2 od3 an3 od4 an4 od5 an5 od6 an6 od7 an7 od8 an8 od9 an9 od10 an10 od11 an11 od12 an12 od13 an13 od14 an14 od15 an15 : Option Addr} {sl1 sl2 sl3 sl4 sl5 sl6 sl7 sl8 sl9 sl10 sl11 sl12 sl13 sl14 sl15 : Array (Option Value)} {oc1 kV1 dc1 pm1 cd1 ct1 oc2 kV2 dc2 pm2 cd2 ct2 oc3 kV3 dc3 pm3 cd3 ct3 oc4 kV4 dc4 pm4 cd4 ct4 oc5 kV5 dc5 pm5 cd5 ct5 oc6 kV6 dc6 pm6 cd6 ct6 oc7 kV7 dc7 pm7 cd7 ct7 oc8 kV8 dc8 pm8 cd8 ct8 oc9 kV9 dc9 pm9 cd9 ct9 oc10 kV10 dc10 pm10 cd10 ct10 oc11 kV11 dc11 pm11 cd11 ct11 oc12 kV12 dc12 pm12 cd12 ct12 oc13 kV13 dc13 pm13 cd13 ct13 oc14 kV14 dc14 pm14 cd14 ct14 oc15 kV15 dc15 pm15 cd15 ct15 : Value} {tgMOST : Tok}
    (a1 : PySem.W.nsIn K mainGlobals "_law_draw" = some (some (.ref f1)))
    (l1 : K.lookup f1 = some ⟨oc1, od1, .func (PySem.W.fnOf "_law_draw" "_law_draw" (defArgs st_Ldraw) (defBody st_Ldraw) (defScope st_Ldraw) .none kV1 dc1 pm1 an1 cd1 ct1), sl1⟩)
    (c1 : PySem.W.codeIn K cd1 "_law_draw" = true)
    (k1 : PySem.W.keepIn K (.ref f1) = true)
    (a2 : PySem.W.nsIn K mainGlobals "_law_pick" = some (some (.ref f2)))
    (l2 : K.lookup f2 = some ⟨oc2, od2, .func (PySem.W.fnOf "_law_pick" "_law_pick" (defArgs st_Lpick) (defBody st_Lpick) (defScope st_Lpick) .none kV2 dc2 pm2 an2 cd2 ct2), sl2⟩)
    (c2 : PySem.W.codeIn K cd2 "_law_pick" = true)
    (k2 : PySem.W.keepIn K (.ref f2) = true)
    (a3 : PySem.W.nsIn K mainGlobals "_law_drawn_rows" = some (some (.ref f3)))
    (l3 : K.lookup f3 = some ⟨oc3, od3, .func (PySem.W.fnOf "_law_drawn_rows" "_law_drawn_rows" (defArgs st_Ldrawn_rows) (defBody st_Ldrawn_rows) (defScope st_Ldrawn_rows) .none kV3 dc3 pm3 an3 cd3 ct3), sl3⟩)
    (c3 : PySem.W.codeIn K cd3 "_law_drawn_rows" = true)
    (k3 : PySem.W.keepIn K (.ref f3) = true)
    (a4 : PySem.W.nsIn K mainGlobals "_law_drawn_book" = some (some (.ref f4)))
    (l4 : K.lookup f4 = some ⟨oc4, od4, .func (PySem.W.fnOf "_law_drawn_book" "_law_drawn_book" (defArgs st_Ldrawn_book) (defBody st_Ldrawn_book) (defScope st_Ldrawn_book) .none kV4 dc4 pm4 an4 cd4 ct4), sl4⟩)
    (c4 : PySem.W.codeIn K cd4 "_law_drawn_book" = true)
    (k4 : PySem.W.keepIn K (.ref f4) = true)
    (a5 : PySem.W.nsIn K mainGlobals "_law_bent" = some (some (.ref f5)))
    (l5 : K.lookup f5 = some ⟨oc5, od5, .func (PySem.W.fnOf "_law_bent" "_law_bent" (defArgs st_Lbent) (defBody st_Lbent) (defScope st_Lbent) .none kV5 dc5 pm5 an5 cd5 ct5), sl5⟩)
    (c5 : PySem.W.codeIn K cd5 "_law_bent" = true)
    (k5 : PySem.W.keepIn K (.ref f5) = true)
    (a6 : PySem.W.nsIn K mainGlobals "_law_same" = some (some (.ref f6)))
    (l6 : K.lookup f6 = some ⟨oc6, od6, .func (PySem.W.fnOf "_law_same" "_law_same" (defArgs st_Lsame) (defBody st_Lsame) (defScope st_Lsame) .none kV6 dc6 pm6 an6 cd6 ct6), sl6⟩)
    (c6 : PySem.W.codeIn K cd6 "_law_same" = true)
    (k6 : PySem.W.keepIn K (.ref f6) = true)
    (a7 : PySem.W.nsIn K mainGlobals "_law_is_whole" = some (some (.ref f7)))
    (l7 : K.lookup f7 = some ⟨oc7, od7, .func (PySem.W.fnOf "_law_is_whole" "_law_is_whole" (defArgs st_Lis_whole) (defBody st_Lis_whole) (defScope st_Lis_whole) .none kV7 dc7 pm7 an7 cd7 ct7), sl7⟩)
    (c7 : PySem.W.codeIn K cd7 "_law_is_whole" = true)
    (k7 : PySem.W.keepIn K (.ref f7) = true)
    (a8 : PySem.W.nsIn K mainGlobals "_law_is_book" = some (some (.ref f8)))
    (l8 : K.lookup f8 = some ⟨oc8, od8, .func (PySem.W.fnOf "_law_is_book" "_law_is_book" (defArgs st_Lis_book) (defBody st_Lis_book) (defScope st_Lis_book) .none kV8 dc8 pm8 an8 cd8 ct8), sl8⟩)
    (c8 : PySem.W.codeIn K cd8 "_law_is_book" = true)
    (k8 : PySem.W.keepIn K (.ref f8) = true)
    (a9 : PySem.W.nsIn K mainGlobals "is_name" = some (some (.ref f9)))
    (l9 : K.lookup f9 = some ⟨oc9, od9, .func (PySem.W.fnOf "is_name" "is_name" (defArgs st_is_name) (defBody st_is_name) (defScope st_is_name) .none kV9 dc9 pm9 an9 cd9 ct9), sl9⟩)
    (c9 : PySem.W.codeIn K cd9 "is_name" = true)
    (k9 : PySem.W.keepIn K (.ref f9) = true)
    (a10 : PySem.W.nsIn K mainGlobals "is_whole" = some (some (.ref f10)))
    (l10 : K.lookup f10 = some ⟨oc10, od10, .func (PySem.W.fnOf "is_whole" "is_whole" (defArgs st_is_whole) (defBody st_is_whole) (defScope st_is_whole) .none kV10 dc10 pm10 an10 cd10 ct10), sl10⟩)
    (c10 : PySem.W.codeIn K cd10 "is_whole" = true)
    (k10 : PySem.W.keepIn K (.ref f10) = true)
    (a11 : PySem.W.nsIn K mainGlobals "is_value" = some (some (.ref f11)))
    (l11 : K.lookup f11 = some ⟨oc11, od11, .func (PySem.W.fnOf "is_value" "is_value" (defArgs st_is_value) (defBody st_is_value) (defScope st_is_value) .none kV11 dc11 pm11 an11 cd11 ct11), sl11⟩)
    (c11 : PySem.W.codeIn K cd11 "is_value" = true)
    (k11 : PySem.W.keepIn K (.ref f11) = true)
    (a12 : PySem.W.nsIn K mainGlobals "is_row" = some (some (.ref f12)))
    (l12 : K.lookup f12 = some ⟨oc12, od12, .func (PySem.W.fnOf "is_row" "is_row" (defArgs st_is_row) (defBody st_is_row) (defScope st_is_row) .none kV12 dc12 pm12 an12 cd12 ct12), sl12⟩)
    (c12 : PySem.W.codeIn K cd12 "is_row" = true)
    (k12 : PySem.W.keepIn K (.ref f12) = true)
    (a13 : PySem.W.nsIn K mainGlobals "are_rising" = some (some (.ref f13)))
    (l13 : K.lookup f13 = some ⟨oc13, od13, .func (PySem.W.fnOf "are_rising" "are_rising" (defArgs st_are_rising) (defBody st_are_rising) (defScope st_are_rising) .none kV13 dc13 pm13 an13 cd13 ct13), sl13⟩)
    (c13 : PySem.W.codeIn K cd13 "are_rising" = true)
    (k13 : PySem.W.keepIn K (.ref f13) = true)
    (a14 : PySem.W.nsIn K mainGlobals "is_book" = some (some (.ref f14)))
    (l14 : K.lookup f14 = some ⟨oc14, od14, .func (PySem.W.fnOf "is_book" "is_book" (defArgs st_is_book) (defBody st_is_book) (defScope st_is_book) .none kV14 dc14 pm14 an14 cd14 ct14), sl14⟩)
    (c14 : PySem.W.codeIn K cd14 "is_book" = true)
    (k14 : PySem.W.keepIn K (.ref f14) = true)
    (a15 : PySem.W.nsIn K mainGlobals "law" = some (some (.ref f15)))
    (l15 : K.lookup f15 = some ⟨oc15, od15, .func (PySem.W.fnOf "law" "law" (defArgs st_law) (defBody st_law) (defScope st_law) .none kV15 dc15 pm15 an15 cd15 ct15), sl15⟩)
    (c15 : PySem.W.codeIn K cd15 "law" = true)
    (k15 : PySem.W.keepIn K (.ref f15) = true)
    (zabs : PySem.W.nsIn K mainGlobals "abs" = some none)
    (zall : PySem.W.nsIn K mainGlobals "all" = some none)
    (zbool : PySem.W.nsIn K mainGlobals "bool" = some none)
    (zint : PySem.W.nsIn K mainGlobals "int" = some none)
    (zisinstance : PySem.W.nsIn K mainGlobals "isinstance" = some none)
    (zlen : PySem.W.nsIn K mainGlobals "len" = some none)
    (zlist : PySem.W.nsIn K mainGlobals "list" = some none)
    (zmax : PySem.W.nsIn K mainGlobals "max" = some none)
    (zrange : PySem.W.nsIn K mainGlobals "range" = some none)
    (zset : PySem.W.nsIn K mainGlobals "set" = some none)
    (zsorted : PySem.W.nsIn K mainGlobals "sorted" = some none)
    (zstr : PySem.W.nsIn K mainGlobals "str" = some none)
    (ztuple : PySem.W.nsIn K mainGlobals "tuple" = some none)
    (zzip : PySem.W.nsIn K mainGlobals "zip" = some none)
    (aGMOST : PySem.W.nsIn K mainGlobals "MOST" = some (some (.int 9999 tgMOST)))
    : ∃ (cs : Cs) (T : Tx K mg cs), T.a_law = fa ∧ (∀ (s : Shared) (v : Value), BindsTo s T.d_law ⟨[v], []⟩ [("_law_script", v)]) := by
  have e := hfa.symm.trans (PySem.W.mg_of X G a15)
  cases e
  have F1 := fun_mk (st := st_Ldraw) l1 c1 k1
  have F2 := fun_mk (st := st_Lpick) l2 c2 k2
  have F3 := fun_mk (st := st_Ldrawn_rows) l3 c3 k3
  have F4 := fun_mk (st := st_Ldrawn_book) l4 c4 k4
  have F5 := fun_mk (st := st_Lbent) l5 c5 k5
  have F6 := fun_mk (st := st_Lsame) l6 c6 k6
  have F7 := fun_mk (st := st_Lis_whole) l7 c7 k7
  have F8 := fun_mk (st := st_Lis_book) l8 c8 k8
  have F9 := fun_mk (st := st_is_name) l9 c9 k9
  have F10 := fun_mk (st := st_is_whole) l10 c10 k10
  have F11 := fun_mk (st := st_is_value) l11 c11 k11
  have F12 := fun_mk (st := st_is_row) l12 c12 k12
  have F13 := fun_mk (st := st_are_rising) l13 c13 k13
  have F14 := fun_mk (st := st_is_book) l14 c14 k14
  have F15 := fun_mk (st := st_law) l15 c15 k15
  have b1 := F1.binds (ps := ["_law_script", "_law_town", "_law_many"]) fun _ _ _ _ _ _ us hl => match us, hl with | [_, _, _], _ => rfl
  have b2 := F2.binds (ps := ["_law_script", "_law_town", "_law_some"]) fun _ _ _ _ _ _ us hl => match us, hl with | [_, _, _], _ => rfl
  have b3 := F3.binds (ps := ["_law_script", "_law_town", "_law_width", "_law_most", "_law_far"]) fun _ _ _ _ _ _ us hl => match us, hl with | [_, _, _, _, _], _ => rfl
  have b4 := F4.binds (ps := ["_law_script", "_law_town", "_law_most", "_law_far"]) fun _ _ _ _ _ _ us hl => match us, hl with | [_, _, _, _], _ => rfl
  have b5 := F5.binds (ps := ["_law_script", "_law_town", "_law_thing"]) fun _ _ _ _ _ _ us hl => match us, hl with | [_, _, _], _ => rfl
  have b6 := F6.binds (ps := ["_law_got", "_law_due"]) fun _ _ _ _ _ _ us hl => match us, hl with | [_, _], _ => rfl
  have b7 := F7.binds (ps := ["_law_thing", "_law_low", "_law_high"]) fun _ _ _ _ _ _ us hl => match us, hl with | [_, _, _], _ => rfl
  have b8 := F8.binds (ps := ["_law_thing"]) fun _ _ _ _ _ _ us hl => match us, hl with | [_], _ => rfl
  have b9 := F9.binds (ps := ["thing"]) fun _ _ _ _ _ _ us hl => match us, hl with | [_], _ => rfl
  have b10 := F10.binds (ps := ["thing"]) fun _ _ _ _ _ _ us hl => match us, hl with | [_], _ => rfl
  have b11 := F11.binds (ps := ["thing"]) fun _ _ _ _ _ _ us hl => match us, hl with | [_], _ => rfl
  have b12 := F12.binds (ps := ["thing", "width"]) fun _ _ _ _ _ _ us hl => match us, hl with | [_, _], _ => rfl
  have b13 := F13.binds (ps := ["row"]) fun _ _ _ _ _ _ us hl => match us, hl with | [_], _ => rfl
  have b14 := F14.binds (ps := ["thing"]) fun _ _ _ _ _ _ us hl => match us, hl with | [_], _ => rfl
  have b15 := F15.binds (ps := ["_law_script"]) fun _ _ _ _ _ _ us hl => match us, hl with | [_], _ => rfl
  exact ⟨{}, {
    n_abs := PySem.W.mg_none_of X G zabs,
    n_all := PySem.W.mg_none_of X G zall,
    n_bool := PySem.W.mg_none_of X G zbool,
    n_int := PySem.W.mg_none_of X G zint,
    n_isinstance := PySem.W.mg_none_of X G zisinstance,
    n_len := PySem.W.mg_none_of X G zlen,
    n_list := PySem.W.mg_none_of X G zlist,
    n_max := PySem.W.mg_none_of X G zmax,
    n_range := PySem.W.mg_none_of X G zrange,
    n_set := PySem.W.mg_none_of X G zset,
    n_sorted := PySem.W.mg_none_of X G zsorted,
    n_str := PySem.W.mg_none_of X G zstr,
    n_tuple := PySem.W.mg_none_of X G ztuple,
    n_zip := PySem.W.mg_none_of X G zzip,
    v_MOST := ⟨_, PySem.W.mg_of X G aGMOST⟩,
    a_Ldraw := f1,
    d_Ldraw := _,
    F_Ldraw := F1,
    B_Ldraw := b1,
    g_Ldraw := PySem.W.mg_of X G a1,
    k_Ldraw := k1,
    a_Lpick := f2,
    d_Lpick := _,
    F_Lpick := F2,
    B_Lpick := b2,
    g_Lpick := PySem.W.mg_of X G a2,
    k_Lpick := k2,
    a_Ldrawn_rows := f3,
    d_Ldrawn_rows := _,
    F_Ldrawn_rows := F3,
    B_Ldrawn_rows := b3,
    g_Ldrawn_rows := PySem.W.mg_of X G a3,
    k_Ldrawn_rows := k3,
    a_Ldrawn_book := f4,
    d_Ldrawn_book := _,
    F_Ldrawn_book := F4,
    B_Ldrawn_book := b4,
    g_Ldrawn_book := PySem.W.mg_of X G a4,
    k_Ldrawn_book := k4,
    a_Lbent := f5,
    d_Lbent := _,
    F_Lbent := F5,
    B_Lbent := b5,
    g_Lbent := PySem.W.mg_of X G a5,
    k_Lbent := k5,
    a_Lsame := f6,
    d_Lsame := _,
    F_Lsame := F6,
    B_Lsame := b6,
    g_Lsame := PySem.W.mg_of X G a6,
    k_Lsame := k6,
    a_Lis_whole := f7,
    d_Lis_whole := _,
    F_Lis_whole := F7,
    B_Lis_whole := b7,
    g_Lis_whole := PySem.W.mg_of X G a7,
    k_Lis_whole := k7,
    a_Lis_book := f8,
    d_Lis_book := _,
    F_Lis_book := F8,
    B_Lis_book := b8,
    g_Lis_book := PySem.W.mg_of X G a8,
    k_Lis_book := k8,
    a_is_name := f9,
    d_is_name := _,
    F_is_name := F9,
    B_is_name := b9,
    g_is_name := PySem.W.mg_of X G a9,
    k_is_name := k9,
    a_is_whole := f10,
    d_is_whole := _,
    F_is_whole := F10,
    B_is_whole := b10,
    g_is_whole := PySem.W.mg_of X G a10,
    k_is_whole := k10,
    a_is_value := f11,
    d_is_value := _,
    F_is_value := F11,
    B_is_value := b11,
    g_is_value := PySem.W.mg_of X G a11,
    k_is_value := k11,
    a_is_row := f12,
    d_is_row := _,
    F_is_row := F12,
    B_is_row := b12,
    g_is_row := PySem.W.mg_of X G a12,
    k_is_row := k12,
    a_are_rising := f13,
    d_are_rising := _,
    F_are_rising := F13,
    B_are_rising := b13,
    g_are_rising := PySem.W.mg_of X G a13,
    k_are_rising := k13,
    a_is_book := f14,
    d_is_book := _,
    F_is_book := F14,
    B_is_book := b14,
    g_is_book := PySem.W.mg_of X G a14,
    k_is_book := k14,
    a_law := fa,
    d_law := _,
    F_law := F15,
    B_law := b15,
    g_law := PySem.W.mg_of X G a15,
    k_law := k15 }, rfl, fun s v => .of_eq rfl⟩
theorem walk {l : PySem.W.OpenLaw} {q : Program} {loose : List Str} {XP : (Str → Option Value) → Heap → Prop} {YP : World → Heap → Prop} {d : DefRec} {K : Params → PySem.W.Frag} (hn : l.most = some 63) (hdf : d.params.defaults = [])
    (hY : ∀ (w : World) (h : Heap), YP w h → (K w.params).In h)
    (F : ∀ (w : World) (mg : Str → Option Value) (fa : Addr) (h : Heap), YP w h → (K w.params).In h → h.Ns mainGlobals mg → mg d.name = some (.ref fa) →
      ∃ (cs : Cs) (T : Tx (K w.params) mg cs), T.a_law = fa ∧ (∀ (s : Shared) (v : Value), BindsTo s T.d_law ⟨[v], []⟩ [("_law_script", v)])) :
    PySem.W.WalkO q loose XP YP l.row.toRowW d [] (fun f vs => PySem.call f vs) :=
  LamX.walk_ofTs (n := 63) (k := 10) (x := "_law_script") (CX := fun w => L2.CX l.prog w) hn (by decide) hdf ⟨rfl, by decide, by decide⟩ hY
    (fun w mg fa h Y X G e => by
      obtain ⟨cs, T, ea, hb⟩ := F w mg fa h Y X G e
      subst ea
      refine ⟨T.d_law, [], spT [] (K w.params), (by intro p hp; cases hp), (by intro p hp; cases hp), (by intro p hp; cases hp), hb, ?_, ?_⟩
      · intro H a ns hl _ hT hS
        exact ⟨a, ns, rfl, hl, hS, (by intro p hp; cases hp), rfl, rfl⟩
      · intro base _ _ hTB
        exact fn_law (fun Y => by
          letI : TabT := ⟨[], Y⟩
          exact ok_law T ) fun ns hl => @law_true ⟨[], fun _ => False⟩ cs ns hl)
    fun w H s e s' z => by
      obtain ⟨_, _, _, _, _, _, _, _, _, _, _, _, f⟩ := z
      exact f
end LW
open PySem PySem.W PyProof.Rows in
set_option maxRecDepth 100001 in
set_option maxHeartbeats 0 in
theorem PySem.Challenge.cw_meetloft_k01_books_told_holds : PySem.Challenge.rw_meetloft_k01_books_told.Holds := by
  w_on; o_law; k_head; (case hw => w_witness2)
  k_fill
  refine LW.walk (l := PySem.Challenge.rw_meetloft_k01_books_told) rfl rfl (fun w h Y => PySem.W.kIn_of Y) ?F
  case F =>
    intro w mg fa h Y KX G hmg
    refine' LW.all_mk KX G hmg ?a1 ?l1 ?c1 ?k1 ?a2 ?l2 ?c2 ?k2 ?a3 ?l3 ?c3 ?k3 ?a4 ?l4 ?c4 ?k4 ?a5 ?l5 ?c5 ?k5 ?a6 ?l6 ?c6 ?k6 ?a7 ?l7 ?c7 ?k7 ?a8 ?l8 ?c8 ?k8 ?a9 ?l9 ?c9 ?k9 ?a10 ?l10 ?c10 ?k10 ?a11 ?l11 ?c11 ?k11 ?a12 ?l12 ?c12 ?k12 ?a13 ?l13 ?c13 ?k13 ?a14 ?l14 ?c14 ?k14 ?a15 ?l15 ?c15 ?k15 ?zabs ?zall ?zbool ?zint ?zisinstance ?zlen ?zlist ?zmax ?zrange ?zset ?zsorted ?zstr ?ztuple ?zzip ?aGMOST
    (case a1 => k_is)
    (case l1 => k_is)
    (case c1 => k_is)
    (case k1 => k_is)
    (case a2 => k_is)
    (case l2 => k_is)
    (case c2 => k_is)
    (case k2 => k_is)
    (case a3 => k_is)
    (case l3 => k_is)
    (case c3 => k_is)
    (case k3 => k_is)
    (case a4 => k_is)
    (case l4 => k_is)
    (case c4 => k_is)
    (case k4 => k_is)
    (case a5 => k_is)
    (case l5 => k_is)
    (case c5 => k_is)
    (case k5 => k_is)
    (case a6 => k_is)
    (case l6 => k_is)
    (case c6 => k_is)
    (case k6 => k_is)
    (case a7 => k_is)
    (case l7 => k_is)
    (case c7 => k_is)
    (case k7 => k_is)
    (case a8 => k_is)
    (case l8 => k_is)
    (case c8 => k_is)
    (case k8 => k_is)
    (case a9 => k_is)
    (case l9 => k_is)
    (case c9 => k_is)
    (case k9 => k_is)
    (case a10 => k_is)
    (case l10 => k_is)
    (case c10 => k_is)
    (case k10 => k_is)
    (case a11 => k_is)
    (case l11 => k_is)
    (case c11 => k_is)
    (case k11 => k_is)
    (case a12 => k_is)
    (case l12 => k_is)
    (case c12 => k_is)
    (case k12 => k_is)
    (case a13 => k_is)
    (case l13 => k_is)
    (case c13 => k_is)
    (case k13 => k_is)
    (case a14 => k_is)
    (case l14 => k_is)
    (case c14 => k_is)
    (case k14 => k_is)
    (case a15 => k_is)
    (case l15 => k_is)
    (case c15 => k_is)
    (case k15 => k_is)
    (case zabs => k_is)
    (case zall => k_is)
    (case zbool => k_is)
    (case zint => k_is)
    (case zisinstance => k_is)
    (case zlen => k_is)
    (case zlist => k_is)
    (case zmax => k_is)
    (case zrange => k_is)
    (case zset => k_is)
    (case zsorted => k_is)
    (case zstr => k_is)
    (case ztuple => k_is)
    (case zzip => k_is)
    (case aGMOST => k_is)
#print axioms PySem.Challenge.cw_meetloft_k01_books_told_holds
