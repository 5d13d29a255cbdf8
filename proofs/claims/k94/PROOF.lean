import PyProof.Rows.All
import Wide.All
import OpenK.AllK
import Wide.FinOn
import HandS.ForMost
import HandS.Deep
import HandS.Exc
import HandS.ExcInit
import HandS.WordsExc
import HandS.Defaults
import HandS.IsInst
import HandS.NoneIn
import HandS.Style
import HandS.Conv
import HandS.DictComp
import HandS.Zip
import HandS.Evl
import HandS.TupAny
import HandS.WordsDict
import HandS.Small
import KE.KeyNested
import KE.KDictKeyed
import KE.KStateDown
import Lean
import HandS.Head0
import HandS.Head1
import HandS.Head2
import HandS.HeadEnd
import HandS.HeadHook1
import HandS.HeadHook2
import PySem.Challenge.RW_pressrecord_k94_whole_buttons_read_from
section
set_option Elab.async false
set_option linter.all false
set_option maxRecDepth 100000
set_option maxHeartbeats 4100000
namespace IR
open L2 PySem PySem.Spec PyProof.Rows

/-! ## data -/
inductive Ky where
  | k (k : Key) | t (ks : List Key)
  deriving DecidableEq
inductive D where
  | non | bl (b : Bool) | int (i : Int) | str (s : Str)
  | lst (xs : List D) | tup (xs : List D) | dct (t : Bool) (kvs : List (Ky × D))
  | obj (c : Nat) (fs : List (Str × D)) | st
instance : Inhabited D := ⟨.non⟩
structure DS where
  cells : List Int
  cur : Int
  n : Int
  mix : Int
inductive Out (α : Type) where
  | ok (a : α) (s : DS)
  | er (c : Nat) (d : D) (s : DS)
  | no
def Out.bind {α β : Type} (x : Out α) (f : α → DS → Out β) : Out β := match x with
  | .ok a s => f a s
  | .er c d s => .er c d s
  | .no => .no
def Out.of {α : Type} (x : Option α) (s : DS) : Out α := match x with
  | some a => .ok a s
  | none => .no
@[simp] theorem bind_ok {α β : Type} (a : α) (s : DS) (f : α → DS → Out β) : (Out.ok a s).bind f = f a s := rfl
@[simp] theorem bind_er {α β : Type} (c : Nat) (d : D) (s : DS) (f : α → DS → Out β) : (Out.er c d s : Out α).bind f = .er c d s := rfl
@[simp] theorem bind_no {α β : Type} (f : α → DS → Out β) : (Out.no : Out α).bind f = .no := rfl
@[simp] theorem of_some {α : Type} (a : α) (s : DS) : Out.of (some a) s = .ok a s := rfl
@[simp] theorem of_none {α : Type} (s : DS) : (Out.of none s : Out α) = .no := rfl
def kD : Key → D
  | .inl i => .int i
  | .inr s => .str s
def kyD : Ky → D
  | .k k => kD k
  | .t ks => .tup (ks.map kD)

/-! ## data in the heap -/
/-- T: the list of draws and the list in it; cl: the classes' addresses -/
structure Cf where
  T : Option (Addr × Addr)
  cl : Nat → Addr
mutual
inductive Rep (c : Cf) (G : Hp) : V → D → Prop
  | non : Rep c G .non .non
  | bl (b : Bool) : Rep c G (.bl b) (.bl b)
  | int (i : Int) : Rep c G (.int i) (.int i)
  | str (s : Str) : Rep c G (.str s) (.str s)
  | lst {p : Addr} {xs : List V} {ds : List D} (h : G p = some (.lst xs)) (r : Reps c G xs ds) : Rep c G (.ref p) (.lst ds)
  | tup {p : Addr} {xs : List V} {ds : List D} (h : G p = some (.tup xs)) (r : Reps c G xs ds) : Rep c G (.ref p) (.tup ds)
  | dk {p : Addr} {kvs : List (Key × V)} {ds : List (Ky × D)} (h : G p = some (.dK kvs)) (r : RepK c G kvs ds) : Rep c G (.ref p) (.dct false ds)
  | dt {p : Addr} {kvs : List (List Key × V)} {ds : List (Ky × D)} (h : G p = some (.dT kvs)) (r : RepT c G kvs ds) : Rep c G (.ref p) (.dct true ds)
  | obj {p dx : Addr} {fs : List (Str × V)} {n : Nat} {ds : List (Str × D)} (h : G p = some (.ins (c.cl n) dx fs)) (hd : G dx = some (.own p)) (r : RepF c G fs ds) : Rep c G (.ref p) (.obj n ds)
  | st {s i : Addr} (h : c.T = some (s, i)) : Rep c G (.ref s) .st
inductive Reps (c : Cf) (G : Hp) : List V → List D → Prop
  | nil : Reps c G [] []
  | cons {v : V} {vs : List V} {d : D} {ds : List D} (h : Rep c G v d) (r : Reps c G vs ds) : Reps c G (v :: vs) (d :: ds)
inductive RepK (c : Cf) (G : Hp) : List (Key × V) → List (Ky × D) → Prop
  | nil : RepK c G [] []
  | cons {k : Key} {v : V} {vs : List (Key × V)} {d : D} {ds : List (Ky × D)} (h : Rep c G v d) (r : RepK c G vs ds) : RepK c G ((k, v) :: vs) ((.k k, d) :: ds)
inductive RepT (c : Cf) (G : Hp) : List (List Key × V) → List (Ky × D) → Prop
  | nil : RepT c G [] []
  | cons {k : List Key} {v : V} {vs : List (List Key × V)} {d : D} {ds : List (Ky × D)} (h : Rep c G v d) (r : RepT c G vs ds) : RepT c G ((k, v) :: vs) ((.t k, d) :: ds)
inductive RepF (c : Cf) (G : Hp) : List (Str × V) → List (Str × D) → Prop
  | nil : RepF c G [] []
  | cons {k : Str} {v : V} {vs : List (Str × V)} {d : D} {ds : List (Str × D)} (h : Rep c G v d) (r : RepF c G vs ds) : RepF c G ((k, v) :: vs) ((k, d) :: ds)
end
def Sub (G G' : Hp) : Prop := ∀ a o, G a = some o → G' a = some o
theorem Sub.refl (G : Hp) : Sub G G := fun _ _ h => h
theorem Sub.trans {G G1 G2 : Hp} (a : Sub G G1) (b : Sub G1 G2) : Sub G G2 := fun c o h => b c o (a c o h)
theorem Sub.upd {G : Hp} {p : Addr} {o : HO} (h : G p = none) : Sub G (upd G p o) := fun a u e => by
  rw [upd_ne (ne_of_none e h)]; exact e
mutual
theorem Rep.mono {c : Cf} {G G' : Hp} (e : Sub G G') : ∀ {v : V} {d : D}, Rep c G v d → Rep c G' v d
  | _, _, .non => .non
  | _, _, .bl b => .bl b
  | _, _, .int i => .int i
  | _, _, .str s => .str s
  | _, _, .lst h r => .lst (e _ _ h) (r.mono e)
  | _, _, .tup h r => .tup (e _ _ h) (r.mono e)
  | _, _, .dk h r => .dk (e _ _ h) (r.mono e)
  | _, _, .dt h r => .dt (e _ _ h) (r.mono e)
  | _, _, .obj h hd r => .obj (e _ _ h) (e _ _ hd) (r.mono e)
  | _, _, .st h => .st h
theorem Reps.mono {c : Cf} {G G' : Hp} (e : Sub G G') : ∀ {v : List V} {d : List D}, Reps c G v d → Reps c G' v d
  | _, _, .nil => .nil
  | _, _, .cons h r => .cons (h.mono e) (r.mono e)
theorem RepK.mono {c : Cf} {G G' : Hp} (e : Sub G G') : ∀ {v : List (Key × V)} {d : List (Ky × D)}, RepK c G v d → RepK c G' v d
  | _, _, .nil => .nil
  | _, _, .cons h r => .cons (h.mono e) (r.mono e)
theorem RepT.mono {c : Cf} {G G' : Hp} (e : Sub G G') : ∀ {v : List (List Key × V)} {d : List (Ky × D)}, RepT c G v d → RepT c G' v d
  | _, _, .nil => .nil
  | _, _, .cons h r => .cons (h.mono e) (r.mono e)
theorem RepF.mono {c : Cf} {G G' : Hp} (e : Sub G G') : ∀ {v : List (Str × V)} {d : List (Str × D)}, RepF c G v d → RepF c G' v d
  | _, _, .nil => .nil
  | _, _, .cons h r => .cons (h.mono e) (r.mono e)
end
/-! ### the steps -/
def isDk : HO → Prop
  | .dK _ => True
  | .dT _ => True
  | _ => False
/-- what is known stands (a dict may be locked) -/
def On (G H : Hp) : Prop := ∀ a o, G a = some o → H a = some o ∨ (isDk o ∧ ∃ b, H a = some (.frz b o))
def inT (c : Cf) (a : Addr) : Prop := ∃ s i, c.T = some (s, i) ∧ (a = s ∨ a = i)
structure Stp (c : Cf) (G H G' H' : Hp) : Prop where
  ex : Sub G G'
  kp : ∀ a, H a ≠ none → ¬ inT c a → H' a = H a
  nw : ∀ a, H a ≠ none → G a = none → G' a = none
/-- the draws -/
def dsOk (ds : DS) : Prop := 0 ≤ ds.cur ∧ 0 ≤ ds.n ∧ ds.n < 2 ^ 40 ∧ 0 ≤ ds.mix ∧ ds.mix < 2147483647
def StO (c : Cf) (H : Hp) (ds : DS) : Prop := ∀ s i, c.T = some (s, i) → s ≠ i ∧
  H s = some (.lst [.ref i, .int ds.cur, .int ds.n, .int ds.mix]) ∧ H i = some (.lst (ds.cells.map V.int))
theorem StO.there {c : Cf} {H : Hp} {ds : DS} (h : StO c H ds) {a : Addr} (t : inT c a) : H a ≠ none := by
  obtain ⟨s, i, e, h1⟩ := t
  obtain ⟨_, h2, h3⟩ := h s i e
  rcases h1 with rfl | rfl
  · rw [h2]; simp
  · rw [h3]; simp
theorem Stp.refl (c : Cf) (G H : Hp) : Stp c G H G H := ⟨Sub.refl G, fun _ _ _ => rfl, fun _ _ h => h⟩
theorem Stp.trans {c : Cf} {G H G1 H1 G2 H2 : Hp} {ds : DS} (a : Stp c G H G1 H1) (s1 : StO c H1 ds) (b : Stp c G1 H1 G2 H2) : Stp c G H G2 H2 := by
  have dm : ∀ x, H x ≠ none → H1 x ≠ none := fun x h => by
    by_cases t : inT c x
    · exact s1.there t
    · rw [a.kp x h t]; exact h
  exact ⟨a.ex.trans b.ex, fun x h t => (b.kp x (dm x h) t).trans (a.kp x h t), fun x h g => b.nw x (dm x h) (a.nw x h g)⟩
theorem Stp.dm {c : Cf} {G H G1 H1 : Hp} {ds : DS} (a : Stp c G H G1 H1) (s1 : StO c H1 ds) {x : Addr} (h : H x ≠ none) : H1 x ≠ none := by
  by_cases t : inT c x
  · exact s1.there t
  · rw [a.kp x h t]; exact h
theorem Stp.fresh {c : Cf} {G H G1 H1 : Hp} {ds : DS} (a : Stp c G H G1 H1) (s1 : StO c H1 ds) {x : Addr} (h : H1 x = none) : H x = none := by
  cases e : H x with
  | none => rfl
  | some o => exact absurd h (a.dm s1 (by rw [e]; simp))
theorem On.there {G H : Hp} (o : On G H) {a : Addr} {u : HO} (h : G a = some u) : H a ≠ none := by
  rcases o a u h with e | ⟨_, b, e⟩ <;> rw [e] <;> simp
theorem On.free {G H : Hp} (o : On G H) {a : Addr} (h : H a = none) : G a = none := by
  cases e : G a with
  | none => rfl
  | some u => exact absurd h (o.there e)
/-- a new object that the known part does not hold (yet) -/
theorem Stp.alloc {c : Cf} {G H : Hp} {p : Addr} {o : HO} (h : H p = none) : Stp c G H G (upd H p o) :=
  ⟨Sub.refl G, fun a e _ => upd_ne (fun z => e (by rw [z]; exact h)), fun _ _ h => h⟩
theorem On.alloc {G H : Hp} {p : Addr} {o : HO} (n : On G H) (h : H p = none) : On G (upd H p o) := fun a u e => by
  have q : a ≠ p := fun z => n.there e (by rw [z]; exact h)
  rw [upd_ne q]; exact n a u e
theorem StO.alloc {c : Cf} {H : Hp} {ds : DS} {p : Addr} {o : HO} (s : StO c H ds) (h : H p = none) : StO c (upd H p o) ds := fun a i e => by
  obtain ⟨h1, h2, h3⟩ := s a i e
  exact ⟨h1, by rw [upd_ne (ne_of_none h2 h)]; exact h2, by rw [upd_ne (ne_of_none h3 h)]; exact h3⟩
/-- a new object goes to the known part -/
theorem On.know {G H : Hp} {p : Addr} {o : HO} (n : On G H) (h : H p = some o) : On (upd G p o) H := fun a u e => by
  by_cases q : a = p
  · subst q; rw [upd_same] at e; cases e; exact .inl h
  · rw [upd_ne q] at e; exact n a u e
theorem Stp.know {c : Cf} {G H G1 H1 : Hp} {p : Addr} {o : HO} (s : Stp c G H G1 H1) (g : G1 p = none) (h : H p = none) : Stp c G H (upd G1 p o) H1 :=
  ⟨s.ex.trans (Sub.upd g), s.kp, fun a e q => by
    have z : a ≠ p := fun z => e (by rw [z]; exact h)
    rw [upd_ne z]; exact s.nw a e q⟩

/-! ### an object at its top, its parts known -/
inductive Top (c : Cf) (G H : Hp) : Addr → D → Prop
  | lst {p : Addr} {xs : List V} {ds : List D} (h : H p = some (.lst xs)) (r : Reps c G xs ds) : Top c G H p (.lst ds)
  | dk {p : Addr} {kvs : List (Key × V)} {ds : List (Ky × D)} (h : H p = some (.dK kvs)) (r : RepK c G kvs ds) : Top c G H p (.dct false ds)
  | dt {p : Addr} {kvs : List (List Key × V)} {ds : List (Ky × D)} (h : H p = some (.dT kvs)) (r : RepT c G kvs ds) : Top c G H p (.dct true ds)
theorem Top.there {c : Cf} {G H : Hp} {p : Addr} {d : D} (t : Top c G H p d) : H p ≠ none := by
  cases t with
  | lst h _ => rw [h]; simp
  | dk h _ => rw [h]; simp
  | dt h _ => rw [h]; simp
theorem Top.mono {c : Cf} {G G' H H' : Hp} {p : Addr} {d : D} (t : Top c G H p d) (e : Sub G G') (h : H' p = H p) : Top c G' H' p d := by
  cases t with
  | lst q r => exact .lst (h.trans q) (r.mono e)
  | dk q r => exact .dk (h.trans q) (r.mono e)
  | dt q r => exact .dt (h.trans q) (r.mono e)
/-- frozen -/
theorem Top.know {c : Cf} {G H : Hp} {p : Addr} {d : D} (t : Top c G H p d) (g : G p = none) : ∃ o, H p = some o ∧ Rep c (upd G p o) (.ref p) d := by
  cases t with
  | lst q r => exact ⟨_, q, .lst upd_same (r.mono (Sub.upd g))⟩
  | dk q r => exact ⟨_, q, .dk upd_same (r.mono (Sub.upd g))⟩
  | dt q r => exact ⟨_, q, .dt upd_same (r.mono (Sub.upd g))⟩

def isC : D → Bool
  | .lst _ => true
  | .dct _ _ => true
  | _ => false
/-! ### what a result is -/
inductive Md where
  | rep | fr | rd
  deriving DecidableEq
/-- H0: the heap ahead -/
def RO (c : Cf) (m : Md) (H0 G H : Hp) (v : V) (d : D) : Prop := match m with
  | .rep => Rep c G v d
  | .fr => (Rep c G v d ∧ isC d = false) ∨ ∃ p, v = .ref p ∧ H0 p = none ∧ G p = none ∧ ¬ inT c p ∧ Top c G H p d
  | .rd => Rep c G v d ∨ ∃ p, v = .ref p ∧ G p = none ∧ ¬ inT c p ∧ Top c G H p d
theorem RO.rd {c : Cf} {m : Md} {H0 G H : Hp} {v : V} {d : D} (r : RO c m H0 G H v d) : RO c .rd H0 G H v d := by
  cases m with
  | rep => exact .inl r
  | fr =>
    rcases r with ⟨r, _⟩ | ⟨p, h1, _, h3, h4, h5⟩
    · exact .inl r
    · exact .inr ⟨p, h1, h3, h4, h5⟩
  | rd => exact r
/-- a readable thing stays readable -/
theorem RO.keep {c : Cf} {H0 G H G' H' : Hp} {v : V} {d : D} (r : RO c .rd H0 G H v d) (s : Stp c G H G' H') : RO c .rd H0 G' H' v d := by
  rcases r with r | ⟨p, h1, h3, h4, h5⟩
  · exact .inl (r.mono s.ex)
  · exact .inr ⟨p, h1, s.nw p h5.there h3, h4, h5.mono s.ex (s.kp p h5.there h4)⟩
/-- a new thing is frozen -/
theorem RO.settle {c : Cf} {G0 H0 G H : Hp} {v : V} {d : D} (r : RO c .fr H0 G H v d) (n : On G H) (s : Stp c G0 H0 G H) : ∃ G', Sub G G' ∧ On G' H ∧ Stp c G0 H0 G' H ∧ Rep c G' v d := by
  rcases r with ⟨r, _⟩ | ⟨p, rfl, h2, h3, h4, h5⟩
  · exact ⟨G, Sub.refl G, n, s, r⟩
  · obtain ⟨o, ho, rp⟩ := h5.know h3
    exact ⟨_, Sub.upd h3, n.know ho, s.know h3 h2, rp⟩
end IR
end
section
set_option Elab.async false
set_option linter.all false
set_option maxRecDepth 100000
set_option maxHeartbeats 4100000
namespace IR
open L2 PySem PySem.Spec PyProof.Rows

/-! ## the small language -/
inductive Bop where
  | add | sub | mul | fdiv | mod
  deriving DecidableEq
inductive Cop where
  | eq | ne | lt | le | gt | ge | isin | notin
  deriving DecidableEq
inductive Bi where
  | len | abs | max2 | max1 | int | str | list | tuple | all | any
  deriving DecidableEq
inductive Ty where
  | b (n : String) | c (k : Nat)
  deriving DecidableEq
/-- targets: a name, a tuple of targets -/
inductive Pt where
  | n (i : Nat) | t (ps : Pt) | nil | cons (p : Pt) (r : Pt)
mutual
inductive E where
  | nop
  | c (d : D)
  | v (i : Nat) | rv (i : Nat)
  | g (x s : Str)
  | bin (o : Bop) (a b : E)
  | cmp (o : Cop) (a b : E)
  | ch (o o' : Cop) (a b c : E)
  | isN (a : E) | notN (a : E)
  | and (a b : E) | or (a b : E) | not (a : E) | neg (a : E)
  | ife (t a b : E)
  | tup (es : Es) | lst (es : Es) | dnew (t : Bool)
  | sub (a i : E)
  | sl (a lo hi : E)
  | call (f : Nat) (es : Es)
  | mth (f : Nat) (o : E) (es : Es)
  | new (k : Nat) (es : Es)
  | bi (b : Bi) (es : Es)
  | lrng (a : E)
  | isi (a : E) (ts : List Ty)
  | get1 (o k : E) | get2 (o k x : E) | index (o x : E)
  | fld (o : E) (x : Str)
  | lc (own : List Nat) (elt : E) (p : Pt) (it : It) (cnd : E)
  | dc (t : Bool) (own : List Nat) (kx vx : E) (p : Pt) (it : It) (cnd : E)
inductive Es where
  | nil | cons (e : E) (r : Es)
inductive It where
  | l (e : E) | s (e : E) | r1 (a : E) | r2 (a b : E) | en (e : E) | zp (a b : E)
end
inductive S where
  | skip
  | seq (a b : S)
  | asg (i : Nat) (e : E)
  | par (is : List Nat) (es : Es)
  | unp (p : Pt) (e : E)
  | app (i : Nat) (e : E)
  | ext (i : Nat) (e : E)
  | seti (i : Nat) (k e : E)
  | pop (p : Pt) (i : Nat) (k : E)
  | apop (j i : Nat) (k : E)
  | ex (e : E)
  | if_ (t : E) (a b : S)
  | for_ (p : Pt) (it : It) (b : S)
  | wh (t : E) (b : S)
  | ret (e : E) | retN
  | raise (c : Nat) (e : E)
  | brk | cont
  | frz (is : List Nat)
  | bad

/-! ## what is known of the text besides -/
structure Gm where
  fn : Nat → Option Str
  mt : Nat → Option (Nat × Str)
  fl : Nat → Bool
  fr : Nat → Bool
  cls : Nat → Option Str
  err : Nat → Option (Str × Str)
  gs : List (Str × Str)
  free : List Str
  cat : Nat → List Str
  nw : Nat → Option Nat

inductive Slot where
  | no | sh (d : D) | own (d : D)
abbrev Env := List Slot

/-! ## data: operations -/
abbrev lim : Nat := 16777216
def flatD : D → Bool
  | .non => true
  | .bl _ => true
  | .int _ => true
  | .str _ => true
  | _ => false
mutual
def toPy : D → Option PyData
  | .non => some .none
  | .bl b => some (.bool b)
  | .int i => some (.int i)
  | .str s => some (.str s)
  | .lst ds => (toPys ds).map .list
  | .tup ds => (toPys ds).map .tuple
  | .dct _ _ => none
  | .obj _ _ => none
  | .st => none
def toPys : List D → Option (List PyData)
  | [] => some []
  | d :: ds => match toPy d, toPys ds with
    | some x, some xs => some (x :: xs)
    | _, _ => none
end
def eqD (a b : D) : Option Bool := match toPy a, toPy b with
  | some x, some y => if SeqAt.shaped x && SeqAt.shaped y then some (PyData.eqv x y) else none
  | _, _ => none
def keysOf : List D → Option (List Key)
  | [] => some []
  | .int i :: r => (keysOf r).map (Sum.inl i :: ·)
  | .str s :: r => (keysOf r).map (Sum.inr s :: ·)
  | _ => none
def keyOf : D → Option Ky
  | .int i => some (.k (.inl i))
  | .str s => some (.k (.inr s))
  | .tup ds => (keysOf ds).map .t
  | _ => none
def dget (kvs : List (Ky × D)) (k : Ky) : Option D := (kvs.find? fun p => decide (p.1 = k)).map (·.2)
def dput (kvs : List (Ky × D)) (k : Ky) (d : D) : List (Ky × D) :=
  if (kvs.any fun p => decide (p.1 = k)) then kvs.map fun p => if p.1 = k then (p.1, d) else p else kvs ++ [(k, d)]
def kyKind : Ky → Bool
  | .k _ => false
  | .t _ => true
def inD (x y : D) : Option Bool := match y with
  | .lst ds => (match toPy x, toPys ds with
    | some d, some es => if SeqAt.shaped d && SeqAt.shaped (.list es) then some (es.any fun z => PyData.eqv z d) else none
    | _, _ => none)
  | .str t => (match x with
    | .str s => some (!(Builtin.Str.occurrences t s 0 t.length 1).isEmpty)
    | _ => none)
  | .dct t kvs => (match keyOf x with
    | some k => if kyKind k = t then some (kvs.any fun p => decide (p.1 = k)) else none
    | none => none)
  | _ => none
def binD (o : Bop) (a b : D) : Option D := match o, a, b with
  | .add, .int i, .int j => some (.int (i + j))
  | .add, .str i, .str j => if i.length + j.length ≤ lim then some (.str (i ++ j)) else none
  | .add, .lst i, .lst j => if i.length + j.length ≤ lim then some (.lst (i ++ j)) else none
  | .sub, .int i, .int j => some (.int (i - j))
  | .mul, .int i, .int j => if (-(2 ^ 64) < i ∧ i < 2 ^ 64) ∨ (-(2 ^ 64) < j ∧ j < 2 ^ 64) then some (.int (i * j)) else none
  | .fdiv, .int i, .int j => if 0 < j ∧ j < 1073741824 then some (.int (i / j)) else none
  | .mod, .int i, .int j => if 0 < j then some (.int (i % j)) else none
  | _, _, _ => none
def cmpD (o : Cop) (a b : D) : Option Bool := match o with
  | .eq => eqD a b
  | .ne => (eqD a b).map (!·)
  | .isin => inD a b
  | .notin => (inD a b).map (!·)
  | .lt => (match a, b with | .int i, .int j => some (decide (i < j)) | _, _ => none)
  | .le => (match a, b with | .int i, .int j => some (decide (i ≤ j)) | _, _ => none)
  | .gt => (match a, b with | .int i, .int j => some (decide (j < i)) | _, _ => none)
  | .ge => (match a, b with | .int i, .int j => some (decide (j ≤ i)) | _, _ => none)
def subD (a i : D) : Option D := match a, i with
  | .lst ds, .int k => atI ds k
  | .tup ds, .int k => atI ds k
  | .str s, .int k => if s.length ≤ lim then (atI s.cps.toList k).map fun c => .str ⟨#[c]⟩ else none
  | .dct t kvs, k => (match keyOf k with
    | some k => if kyKind k = t then dget kvs k else none
    | none => none)
  | _, _ => none
def cutL {α : Type} (xs : List α) (lo hi : Option Int) : List α := (xs.drop (HT.sIx xs.length 0 lo)).take (HT.sIx xs.length xs.length hi - HT.sIx xs.length 0 lo)
def slD (a : D) (lo hi : Option Int) : Option D := match a with
  | .lst ds => some (.lst (cutL ds lo hi))
  | .tup ds => some (.tup (cutL ds lo hi))
  | _ => none
def intsOf : List D → Option (List Int)
  | [] => some []
  | .int i :: r => (intsOf r).map (i :: ·)
  | _ => none
def blsOf : List D → Option (List Bool)
  | [] => some []
  | .bl i :: r => (blsOf r).map (i :: ·)
  | _ => none
def maxL : List Int → Option Int
  | [] => none
  | i :: r => some (r.foldl (fun m x => if x > m then x else m) i)
def biD (b : Bi) (as : List D) : Option D := match b, as with
  | .len, [.lst ds] => some (.int ds.length)
  | .len, [.tup ds] => some (.int ds.length)
  | .len, [.str s] => if s.length ≤ lim then some (.int s.length) else none
  | .len, [.dct false kvs] => some (.int kvs.length)
  | .abs, [.int i] => some (.int (if i < 0 then -i else i))
  | .max2, [.int i, .int j] => some (.int (if j > i then j else i))
  | .max1, [.lst ds] => (match intsOf ds with
    | some ns => (maxL ns).map .int
    | none => none)
  | .int, [.int i] => some (.int i)
  | .str, [.int i] => if i.natAbs.log2 < 1920 then some (.str (toString i)) else none
  | .list, [.lst ds] => some (.lst ds)
  | .list, [.tup ds] => some (.lst ds)
  | .tuple, [.lst ds] => some (.tup ds)
  | .tuple, [.tup ds] => some (.tup ds)
  | .all, [.lst ds] => (blsOf ds).map fun bs => .bl (bs.all id)
  | .any, [.lst ds] => (blsOf ds).map fun bs => .bl (bs.any id)
  | _, _ => none
/-- isinstance -/
def isT (d : D) : Ty → Option Bool
  | .b n => (match d with
    | .non => (if n = "int" ∨ n = "str" ∨ n = "list" ∨ n = "tuple" ∨ n = "dict" ∨ n = "bool" then some false else none)
    | .bl _ => (if n = "int" ∨ n = "bool" then some true else if n = "str" ∨ n = "list" ∨ n = "tuple" ∨ n = "dict" then some false else none)
    | .int _ => (if n = "int" then some true else if n = "str" ∨ n = "list" ∨ n = "tuple" ∨ n = "dict" ∨ n = "bool" then some false else none)
    | .str _ => (if n = "str" then some true else if n = "int" ∨ n = "list" ∨ n = "tuple" ∨ n = "dict" ∨ n = "bool" then some false else none)
    | .lst _ => (if n = "list" then some true else if n = "int" ∨ n = "str" ∨ n = "tuple" ∨ n = "dict" ∨ n = "bool" then some false else none)
    | .tup _ => (if n = "tuple" then some true else if n = "int" ∨ n = "str" ∨ n = "list" ∨ n = "dict" ∨ n = "bool" then some false else none)
    | .dct _ _ => (if n = "dict" then some true else if n = "int" ∨ n = "str" ∨ n = "list" ∨ n = "tuple" ∨ n = "bool" then some false else none)
    | .obj _ _ => (if n = "int" ∨ n = "str" ∨ n = "list" ∨ n = "tuple" ∨ n = "dict" ∨ n = "bool" then some false else none)
    | .st => none)
  | .c k => (match d with
    | .non => some false
    | .bl _ => some false
    | .int _ => some false
    | .str _ => some false
    | .lst _ => some false
    | .tup _ => some false
    | .dct _ _ => some false
    | .obj j _ => (if j = k then some true else none)
    | .st => none)
def isTs (d : D) : List Ty → Option Bool
  | [] => some false
  | t :: ts => (match isT d t with
    | some true => some true
    | some false => isTs d ts
    | none => none)
def objOk (Γ : Gm) : D → Bool
  | .obj k _ => (Γ.cls k).isSome
  | .dct true _ => false
  | _ => true
def isDct : D → Bool
  | .dct _ _ => true
  | _ => false
def isLst : D → Bool
  | .lst _ => true
  | _ => false
def mthOk (Γ : Gm) (f : Nat) (x : D) : Bool := match x, Γ.mt f with
  | .obj k fs, some (k', m) => decide (k = k') && (fs.lookup m).isNone
  | _, _ => false
def getD? (x y d : D) : Option D := match x, keyOf y with
  | .dct t kvs, some k => if kyKind k = t then some ((dget kvs k).getD d) else none
  | _, _ => none
def idxD (l y : D) : Option D := match l with
  | .lst ds => (match toPy y, toPys ds with
    | some d, some es => if SeqAt.shaped d && SeqAt.shaped (.list es) then (es.findIdx? fun z => PyData.eqv z d).map fun j => .int (j : Nat) else none
    | _, _ => none)
  | _ => none
def strSigns (s : Str) : List D := s.cps.toList.map fun c => .str ⟨#[c]⟩

/-! ## meaning -/
def isNonD : D → Bool
  | .non => true
  | _ => false
/-- a flat answer, no error -/
def flatO : Out D → Out D
  | .ok d s => if flatD d then .ok d s else .no
  | _ => .no
def boolO (d : D) (s : DS) : Out D := match d with
  | .bl b => .ok (.bl b) s
  | _ => .no
def onB {α : Type} (d : D) (f : Bool → Out α) : Out α := match d with
  | .bl b => f b
  | _ => .no
@[simp] theorem onB_bl {α : Type} (b : Bool) (f : Bool → Out α) : onB (.bl b) f = f b := rfl
@[simp] theorem boolO_bl (b : Bool) (s : DS) : boolO (.bl b) s = .ok (.bl b) s := rfl
def E.isNop : E → Bool
  | .nop => true
  | _ => false
def intO (x : D) (s : DS) : Out (Option Int) := match x with
  | .int i => .ok (some i) s
  | _ => .no
def mdOf (Γ : Gm) : E → Md
  | .rv _ => .rd
  | .lst _ => .fr
  | .dnew _ => .fr
  | .bin .add _ _ => .fr
  | .sl _ _ _ => .fr
  | .call f _ => if Γ.fr f then .fr else .rep
  | .mth f _ _ => if Γ.fr f then .fr else .rep
  | .bi .list _ => .fr
  | .lrng _ => .fr
  | .lc _ _ _ _ _ => .fr
  | .dc _ _ _ _ _ _ _ => .fr
  | _ => .rep
def asgP : Pt → D → Env → Option Env
  | .n i, d, ρ => some (ρ.set i (.sh d))
  | .t ps, .tup ds, ρ => asgPs ps ds ρ
  | _, _, _ => none
where asgPs : Pt → List D → Env → Option Env
  | .nil, [], ρ => some ρ
  | .cons p r, d :: ds, ρ => (asgP p d ρ).bind fun ρ => asgPs r ds ρ
  | _, _, _ => none
def wipeE (ρ : Env) : List Nat → Env
  | [] => ρ
  | v :: vs => (wipeE ρ vs).set v .no
/-- a list comprehension's turns -/
def lcM (p : Pt) (ρ : Env) (cnd elt : Env → DS → Out D) : List D → DS → Out (List D)
  | [], s => .ok [] s
  | d :: r, s => match asgP p d ρ with
    | none => .no
    | some ρ1 => match cnd ρ1 s with
      | .ok (.bl true) s1 => (match elt ρ1 s1 with
        | .ok x s2 => (match lcM p ρ cnd elt r s2 with
          | .ok xs s3 => .ok (x :: xs) s3
          | _ => .no)
        | _ => .no)
      | .ok (.bl false) s1 => lcM p ρ cnd elt r s1
      | _ => .no
/-- a dict comprehension's turns -/
def dcM (t : Bool) (p : Pt) (ρ : Env) (cnd kx vx : Env → DS → Out D) : List D → List (Ky × D) → DS → Out (List (Ky × D))
  | [], acc, s => .ok acc s
  | d :: r, acc, s => match asgP p d ρ with
    | none => .no
    | some ρ1 => match cnd ρ1 s with
      | .ok (.bl true) s1 => (match kx ρ1 s1 with
        | .ok k s2 => (match vx ρ1 s2 with
          | .ok x s3 => (match keyOf k with
            | some y => if kyKind y = t ∧ acc.length < lim then dcM t p ρ cnd kx vx r (dput acc y x) s3 else .no
            | none => .no)
          | _ => .no)
        | _ => .no)
      | .ok (.bl false) s1 => dcM t p ρ cnd kx vx r acc s1
      | _ => .no
def rangeD (lo : Int) (n : Nat) : List D := (List.range n).map fun (i : Nat) => D.int (lo + (i : Int))
def enumD : Nat → List D → List D
  | _, [] => []
  | n, d :: r => .tup [.int n, d] :: enumD (n + 1) r
section
variable (Γ : Gm) (cf : Nat → List D → DS → Out D)
mutual
def ev : E → Env → DS → Out D
  | .nop, _, _ => .no
  | .c d, _, s => .ok d s
  | .v i, ρ, s => (match ρ[i]? with
    | some (.sh d) => .ok d s
    | _ => .no)
  | .rv i, ρ, s => (match ρ[i]? with
    | some (.sh d) => .ok d s
    | some (.own d) => .ok d s
    | _ => .no)
  | .g _ z, _, s => .ok (.str z) s
  | .bin o a b, ρ, s => (ev a ρ s).bind fun x s => (ev b ρ s).bind fun y s => .of (binD o x y) s
  | .cmp o a b, ρ, s => (ev a ρ s).bind fun x s => (ev b ρ s).bind fun y s => .of ((cmpD o x y).map .bl) s
  | .ch o o' a b c, ρ, s => (ev a ρ s).bind fun x s => (ev b ρ s).bind fun y s => (match cmpD o x y with
    | some true => (ev c ρ s).bind fun z s => .of ((cmpD o' y z).map .bl) s
    | some false => .ok (.bl false) s
    | none => .no)
  | .isN a, ρ, s => (ev a ρ s).bind fun x s => .ok (.bl (isNonD x)) s
  | .notN a, ρ, s => (ev a ρ s).bind fun x s => .ok (.bl (!isNonD x)) s
  | .and a b, ρ, s => (ev a ρ s).bind fun x s => onB x fun t => if t then (ev b ρ s).bind boolO else .ok (.bl false) s
  | .or a b, ρ, s => (ev a ρ s).bind fun x s => onB x fun t => if t then .ok (.bl true) s else (ev b ρ s).bind boolO
  | .not a, ρ, s => (ev a ρ s).bind fun x s => onB x fun t => .ok (.bl (!t)) s
  | .neg a, ρ, s => (ev a ρ s).bind fun x s => (match x with
    | .int i => .ok (.int (-i)) s
    | _ => .no)
  | .ife t a b, ρ, s => (ev t ρ s).bind fun x s => onB x fun t => if t then ev a ρ s else ev b ρ s
  | .tup es, ρ, s => (evs es ρ s).bind fun ds s => if ds.length ≤ lim then .ok (.tup ds) s else .no
  | .lst es, ρ, s => (evs es ρ s).bind fun ds s => if ds.length ≤ lim then .ok (.lst ds) s else .no
  | .dnew t, _, s => .ok (.dct t []) s
  | .sub a i, ρ, s => (ev a ρ s).bind fun x s => (ev i ρ s).bind fun y s => .of (subD x y) s
  | .sl a lo hi, ρ, s => (ev a ρ s).bind fun x s => (if lo.isNop then .ok none s else (ev lo ρ s).bind intO).bind fun l s => (if hi.isNop then .ok none s else (ev hi ρ s).bind intO).bind fun h s => .of (slD x l h) s
  | .call f es, ρ, s => (evs es ρ s).bind fun ds s => (if Γ.fl f then flatO (cf f ds s) else cf f ds s)
  | .mth f o es, ρ, s => (ev o ρ s).bind fun x s => if mthOk Γ f x then (evs es ρ s).bind fun ds s => cf f (x :: ds) s else .no
  | .new k es, ρ, s => (evs es ρ s).bind fun ds s => cf k ds s
  | .bi b es, ρ, s => (evs es ρ s).bind fun ds s => .of (biD b ds) s
  | .lrng a, ρ, s => (ev a ρ s).bind fun x s => (match x with
    | .int n => if n ≤ lim ∧ -(2 ^ 62) ≤ n then .ok (.lst (rangeD 0 n.toNat)) s else .no
    | _ => .no)
  | .isi a ts, ρ, s => (ev a ρ s).bind fun x s => if objOk Γ x then .of ((isTs x ts).map .bl) s else .no
  | .get1 o k, ρ, s => (ev o ρ s).bind fun x s => if isDct x then (ev k ρ s).bind fun y s => .of (getD? x y .non) s else .no
  | .get2 o k z, ρ, s => (ev o ρ s).bind fun x s => if isDct x then (ev k ρ s).bind fun y s => (ev z ρ s).bind fun d s => .of (getD? x y d) s else .no
  | .index o x, ρ, s => (ev o ρ s).bind fun l s => if isLst l then (ev x ρ s).bind fun y s => .of (idxD l y) s else .no
  | .fld o x, ρ, s => (ev o ρ s).bind fun y s => (match y with
    | .obj k fs => if (Γ.cls k).isSome ∧ (Γ.cat k).contains x = true then .of (fs.lookup x) s else .no
    | _ => .no)
  | .lc own elt p it cnd, ρ, s => (itM it ρ s).bind fun ds s => if ds.length ≤ lim then
      (lcM p (wipeE ρ own) (fun ρ s => if cnd.isNop then .ok (.bl true) s else ev cnd ρ s) (fun ρ s => ev elt ρ s) ds s).bind fun xs s => .ok (.lst xs) s else .no
  | .dc t own kx vx p it cnd, ρ, s => (itM it ρ s).bind fun ds s =>
      (dcM t p (wipeE ρ own) (fun ρ s => if cnd.isNop then .ok (.bl true) s else ev cnd ρ s) (fun ρ s => ev kx ρ s) (fun ρ s => ev vx ρ s) ds [] s).bind fun kvs s => .ok (.dct t kvs) s
def evs : Es → Env → DS → Out (List D)
  | .nil, _, s => .ok [] s
  | .cons e r, ρ, s => (ev e ρ s).bind fun x s => (evs r ρ s).bind fun xs s => .ok (x :: xs) s
def itM : It → Env → DS → Out (List D)
  | .l e, ρ, s => (ev e ρ s).bind fun x s => (match x with
    | .lst ds => .ok ds s
    | .tup ds => .ok ds s
    | _ => .no)
  | .s e, ρ, s => (ev e ρ s).bind fun x s => (match x with
    | .str z => .ok (strSigns z) s
    | _ => .no)
  | .r1 a, ρ, s => (ev a ρ s).bind fun x s => (match x with
    | .int n => if -(2 ^ 62) ≤ n ∧ n < lim then .ok (rangeD 0 n.toNat) s else .no
    | _ => .no)
  | .r2 a b, ρ, s => (ev a ρ s).bind fun x s => (ev b ρ s).bind fun y s => (match x, y with
    | .int m, .int n => if -(2 ^ 62) ≤ m ∧ m < 2 ^ 62 ∧ -(2 ^ 62) ≤ n ∧ n < 2 ^ 62 ∧ n - m < lim then .ok (rangeD m (n - m).toNat) s else .no
    | _, _ => .no)
  | .en e, ρ, s => (ev e ρ s).bind fun x s => (match x with
    | .lst ds => .ok (enumD 0 ds) s
    | _ => .no)
  | .zp a b, ρ, s => (ev a ρ s).bind fun x s => (ev b ρ s).bind fun y s => (match x, y with
    | .lst ds, .lst es => .ok ((ds.zip es).map fun q => .tup [q.1, q.2]) s
    | .tup ds, .tup es => .ok ((ds.zip es).map fun q => .tup [q.1, q.2]) s
    | _, _ => .no)
end
end
end IR
end
section
set_option Elab.async false
set_option linter.all false
set_option maxRecDepth 100000
set_option maxHeartbeats 4100000
namespace IR
open L2 PySem PySem.Spec PyProof.Rows

inductive Fl where
  | nx (ρ : Env) | rt (d : D) | bk (ρ : Env) | ct (ρ : Env)
def mkSlot (m : Md) (d : D) : Slot := if m = .fr ∧ isC d = true then .own d else .sh d
def forM (body : Env → DS → Out Fl) (p : Pt) : List D → Env → DS → Out Fl
  | [], ρ, s => .ok (.nx ρ) s
  | d :: r, ρ, s => match asgP p d ρ with
    | none => .no
    | some ρ1 => (body ρ1 s).bind fun fl s => match fl with
      | .nx ρ2 => forM body p r ρ2 s
      | .ct ρ2 => forM body p r ρ2 s
      | .bk ρ2 => .ok (.nx ρ2) s
      | .rt d => .ok (.rt d) s
def whM (cnd : Env → DS → Out D) (body : Env → DS → Out Fl) : Nat → Env → DS → Out Fl
  | 0, _, _ => .no
  | n + 1, ρ, s => (cnd ρ s).bind fun x s => onB x fun t => if t then ((body ρ s).bind fun fl s => (match fl with
      | .nx ρ2 => whM cnd body n ρ2 s
      | .ct ρ2 => whM cnd body n ρ2 s
      | .bk ρ2 => .ok (.nx ρ2) s
      | .rt d => .ok (.rt d) s)) else .ok (.nx ρ) s
def frzE (ρ : Env) : List Nat → Env
  | [] => ρ
  | i :: r => (match ρ[i]? with
    | some (.own d) => frzE (ρ.set i (.sh d)) r
    | _ => frzE ρ r)
def setL : List Nat → List Slot → Env → Option Env
  | [], [], ρ => some ρ
  | i :: is, x :: xs, ρ => setL is xs (ρ.set i x)
  | _, _, _ => none
/-- may this be handed back as new? -/
def retOk (Γ : Gm) (fr : Bool) (e : E) (d : D) (ρ : Env) : Bool := !fr || (match e with
  | .rv i => (match ρ[i]? with
    | some (.own _) => true
    | _ => !isC d)
  | _ => decide (mdOf Γ e = .fr) || !isC d)
section
variable (Γ : Gm) (cf : Nat → List D → DS → Out D) (fr : Bool) (W : Nat)
def evp : Es → Env → DS → Out (List Slot)
  | .nil, _, s => .ok [] s
  | .cons e r, ρ, s => (ev Γ cf e ρ s).bind fun x s => (evp r ρ s).bind fun xs s => .ok (mkSlot (mdOf Γ e) x :: xs) s
def exec : S → Env → DS → Out Fl
  | .skip, ρ, s => .ok (.nx ρ) s
  | .seq a b, ρ, s => (exec a ρ s).bind fun fl s => (match fl with
    | .nx ρ1 => exec b ρ1 s
    | fl => .ok fl s)
  | .asg i e, ρ, s => (ev Γ cf e ρ s).bind fun d s => .ok (.nx (ρ.set i (mkSlot (mdOf Γ e) d))) s
  | .par is es, ρ, s => (evp Γ cf es ρ s).bind fun xs s => (match setL is xs ρ with
    | some ρ1 => .ok (.nx ρ1) s
    | none => .no)
  | .unp p e, ρ, s => (ev Γ cf e ρ s).bind fun d s => (match asgP p d ρ with
    | some ρ1 => .ok (.nx ρ1) s
    | none => .no)
  | .app i e, ρ, s => (match ρ[i]? with
    | some (.own (.lst ds)) => (ev Γ cf e ρ s).bind fun d s => if ds.length < lim then .ok (.nx (ρ.set i (.own (.lst (ds ++ [d]))))) s else .no
    | _ => .no)
  | .ext i e, ρ, s => (match ρ[i]? with
    | some (.own (.lst ds)) => (ev Γ cf e ρ s).bind fun d s => (match d with
      | .lst es => if ds.length + es.length ≤ lim then .ok (.nx (ρ.set i (.own (.lst (ds ++ es))))) s else .no
      | _ => .no)
    | _ => .no)
  | .seti i k e, ρ, s => (ev Γ cf e ρ s).bind fun d s => (match ρ[i]? with
    | some (.own (.lst ds)) => (ev Γ cf k ρ s).bind fun x s => (match x with
      | .int j => (match ixN ds.length j with
        | some j => .ok (.nx (ρ.set i (.own (.lst (ds.set j d))))) s
        | none => .no)
      | _ => .no)
    | some (.own (.dct t kvs)) => (ev Γ cf k ρ s).bind fun x s => (match keyOf x with
      | some y => if kyKind y = t ∧ kvs.length < lim then .ok (.nx (ρ.set i (.own (.dct t (dput kvs y d))))) s else .no
      | none => .no)
    | _ => .no)
  | .pop p i k, ρ, s => (match ρ[i]? with
    | some (.own (.lst ds)) => (ev Γ cf k ρ s).bind fun x s => (match x with
      | .int j => if 0 ≤ j ∧ j ≤ lim then (match ds[j.toNat]? with
        | some d => (match asgP p d (ρ.set i (.own (.lst (ds.eraseIdx j.toNat)))) with
          | some ρ1 => .ok (.nx ρ1) s
          | none => .no)
        | none => .no) else .no
      | _ => .no)
    | _ => .no)
  | .apop h i k, ρ, s => (match ρ[h]?, ρ[i]? with
    | some (.own (.lst es)), some (.own (.lst ds)) => if h = i then .no else (ev Γ cf k ρ s).bind fun x s => (match x with
      | .int j => if 0 ≤ j ∧ j ≤ lim ∧ es.length < lim then (match ds[j.toNat]? with
        | some d => .ok (.nx ((ρ.set i (.own (.lst (ds.eraseIdx j.toNat)))).set h (.own (.lst (es ++ [d]))))) s
        | none => .no) else .no
      | _ => .no)
    | _, _ => .no)
  | .ex e, ρ, s => (ev Γ cf e ρ s).bind fun _ s => .ok (.nx ρ) s
  | .if_ t a b, ρ, s => (ev Γ cf t ρ s).bind fun x s => onB x fun t => if t then exec a ρ s else exec b ρ s
  | .for_ p it b, ρ, s => (itM Γ cf it ρ s).bind fun ds s => forM (fun ρ s => exec b ρ s) p ds ρ s
  | .wh t b, ρ, s => whM (fun ρ s => ev Γ cf t ρ s) (fun ρ s => exec b ρ s) W ρ s
  | .ret e, ρ, s => (ev Γ cf e ρ s).bind fun d s => if retOk Γ fr e d ρ then .ok (.rt d) s else .no
  | .retN, _, s => .ok (.rt .non) s
  | .raise c e, ρ, s => (ev Γ cf e ρ s).bind fun d s => .er c d s
  | .brk, ρ, s => .ok (.bk ρ) s
  | .cont, ρ, s => .ok (.ct ρ) s
  | .frz is, ρ, s => .ok (.nx (frzE ρ is)) s
  | .bad, _, _ => .no
end
/-- a def: its number of parameters, of names; its body -/
inductive Fn where
  | ir (a n : Nat) (b : S) (fr : Bool)
  | prim (a l : Nat) (sem : List D → DS → Out D)
  | none
def fuelW : Nat := 1000000000
def runF (Γ : Gm) (cf : Nat → List D → DS → Out D) (a n : Nat) (b : S) (fr : Bool) (as : List D) (s : DS) : Out D :=
  if as.length = a then (match exec Γ cf fr fuelW b (as.map Slot.sh ++ List.replicate (n - a) Slot.no) s with
    | .ok (.rt d) s => .ok d s
    | .ok (.nx _) s => .ok .non s
    | .er c d s => .er c d s
    | _ => .no) else .no
def callM (Γ : Gm) (tb : Nat → Fn) : Nat → Nat → List D → DS → Out D
  | 0, _, _, _ => .no
  | k + 1, f, as, s => match tb f with
    | .ir a n b fr => runF Γ (callM Γ tb k) a n b fr as s
    | .prim a l sem => if as.length = a ∧ l ≤ k + 1 then sem as s else .no
    | .none => .no
end IR
end
section
set_option Elab.async false
set_option linter.all false
set_option maxRecDepth 100000
set_option maxHeartbeats 4100000
namespace IR
open L2 PySem PySem.Spec PyProof.Rows

/-! ## the text and its small form -/
def noStar : Expr → Bool
  | .Starred _ _ => false
  | _ => true
def okN (x : Str) : Bool := !(x == ("__debug__" : Str)) && !(x == ("__classdict__" : Str))
def visB (sc : Scope) (x : Str) : Bool := match sc.names.lookup x with
  | some .local => true
  | some .cell => true
  | some .free => true
  | _ => false
def locB (sc : Scope) (x : Str) : Bool := match sc.names.lookup x with
  | some .local => true
  | some .cell => true
  | _ => false
def onlyLoc (sc : Scope) (x : Str) : Bool := match sc.names.lookup x with
  | some .local => true
  | _ => false
def glB (sc : Scope) (x : Str) : Bool := match sc.names.lookup x with
  | some .globalImplicit => !(x == ("__debug__" : Str))
  | _ => false
def notCall0 : Expr → Bool
  | .Call (.Name _ _) [] [] _ => false
  | _ => true
def notSl : Expr → Bool
  | .Slice _ _ _ _ => false
  | _ => true
def notIf : Expr → Bool
  | .IfExp _ _ _ _ => false
  | _ => true
def notComp : Expr → Bool
  | .ListComp _ _ _ _ => false
  | .SetComp _ _ _ _ => false
  | .DictComp _ _ _ _ _ => false
  | _ => true
def opB : Bop → Operator → Bool
  | .add, .Add => true
  | .sub, .Sub => true
  | .mul, .Mult => true
  | .fdiv, .FloorDiv => true
  | .mod, .Mod => true
  | _, _ => false
def opC : Cop → CmpOp → Bool
  | .eq, .Eq => true
  | .ne, .NotEq => true
  | .lt, .Lt => true
  | .le, .LtE => true
  | .gt, .Gt => true
  | .ge, .GtE => true
  | .isin, .In => true
  | .notin, .NotIn => true
  | _, _ => false
def biName : Bi → Str
  | .len => "len" | .abs => "abs" | .max2 => "max" | .max1 => "max" | .int => "int" | .str => "str" | .list => "list" | .tuple => "tuple" | .all => "all" | .any => "any"
def biAr : Bi → Nat
  | .max2 => 2
  | _ => 1
def Es.length : Es → Nat
  | .nil => 0
  | .cons _ r => r.length + 1
section
variable (Γ : Gm) (N : List Str)
def freeB (sc : Scope) (x : Str) : Bool := glB sc x && Γ.free.contains x && !(x == ("__name__" : Str))
def tyB (sc : Scope) : Ty → Expr → Bool
  | .b n, .Name x _ => freeB Γ sc x && x == Str.ofString n && ["int", "str", "list", "tuple", "dict", "bool"].contains n
  | .c k, .Name x _ => glB sc x && (match Γ.cls k with | some y => x == y | none => false)
  | _, _ => false
def tysB (sc : Scope) : List Ty → List Expr → Bool
  | [], [] => true
  | t :: ts, e :: es => tyB Γ sc t e && noStar e && tysB sc ts es
  | _, _ => false
def tyArg (sc : Scope) : List Ty → Expr → Bool
  | ts, .Tuple es _ _ => tysB Γ sc ts es && decide (0 < ts.length) && decide (ts.length < 20)
  | [t], e => tyB Γ sc t e
  | _, _ => false
/-- the arguments of a call: none is starred -/
def argsB : List Expr → Bool
  | [] => true
  | e :: es => noStar e && argsB es
def ptB (sc : Scope) : Pt → Expr → Bool
  | .n i, .Name x _ => decide (N[i]? = some x) && locB sc x
  | .t ps, .Tuple es _ _ => ptsB sc ps es
  | _, _ => false
where ptsB (sc : Scope) : Pt → List Expr → Bool
  | .nil, [] => true
  | .cons p r, e :: es => ptB sc p e && noStar e && ptsB sc r es
  | _, _ => false
/-- the slots that a target writes -/
def Pt.slots : Pt → List Nat
  | .n i => [i]
  | .t ps => ps.slots
  | .nil => []
  | .cons p r => p.slots ++ r.slots
def ownNames (own : List Nat) : List (Str × Nat) := own.filterMap fun i => (N[i]?).map fun x => (x, i)
mutual
def chk (sc : Scope) : E → Expr → Bool
  | .c d, .Constant k _ _ => (match d, k with
    | .int i, .int j => decide (i = j)
    | .bl i, .bool j => i == j
    | .non, .none => true
    | .str x, .str y => decide (x = y)
    | _, _ => false)
  | .v i, .Name x _ => decide (N[i]? = some x) && visB sc x && okN x
  | .rv i, .Name x _ => decide (N[i]? = some x) && visB sc x && okN x
  | .g x z, .Name y _ => decide (x = y) && glB sc x && Γ.gs.contains (x, z)
  | .bin o a b, .BinOp x op y _ => opB o op && chk sc a x && chk sc b y
  | .cmp o a b, .Compare x [op] [y] _ => opC o op && chk sc a x && chk sc b y && !behindInMarks op y
  | .ch o o' a b c, .Compare x [op, op'] [y, z] _ => opC o op && opC o' op' && chk sc a x && chk sc b y && chk sc c z && !lastMarks [op, op'] [y, z]
  | .isN a, .Compare x [.Is] [.Constant .none _ _] _ => chk sc a x
  | .notN a, .Compare x [.IsNot] [.Constant .none _ _] _ => chk sc a x
  | .and a b, .BoolOp .And (x :: y :: r) pos => chk sc a x && notIf x && (match r with
    | [] => chk sc b y && notIf y
    | z :: r' => chk sc b (.BoolOp .And (y :: z :: r') pos))
  | .or a b, .BoolOp .Or (x :: y :: r) pos => chk sc a x && notIf x && (match r with
    | [] => chk sc b y && notIf y
    | z :: r' => chk sc b (.BoolOp .Or (y :: z :: r') pos))
  | .not a, .UnaryOp .Not x _ => chk sc a x && notIf x
  | .neg a, .UnaryOp .USub x _ => chk sc a x
  | .ife t a b, .IfExp u x y _ => chk sc t u && notIf u && chk sc a x && chk sc b y && decide (mdOf Γ a ≠ .rd) && decide (mdOf Γ b ≠ .rd)
  | .tup es, .Tuple xs _ _ => chks sc true es xs
  | .lst es, .List xs _ => chks sc true es xs
  | .dnew _, .Dict [] [] _ => true
  | .sub a i, .Subscript x y _ => chk sc a x && chk sc i y && notSl y
  | .sl a lo hi, .Subscript x (.Slice l h none _) _ => chk sc a x && (match l with
      | none => lo.isNop
      | some y => !lo.isNop && chk sc lo y) && (match h with
      | none => hi.isNop
      | some y => !hi.isNop && chk sc hi y)
  | .call f es, .Call (.Name x _) xs [] _ => decide (Γ.fn f = some x) && glB sc x && chks sc (!Γ.fl f) es xs
  | .mth f o es, .Call (.Attribute x m ap) xs [] cp => chk sc o x && notCall0 x && (match Γ.mt f with
      | some (_, y) => m == y
      | none => false) && chks sc true es xs && decide (xs.length < 20) && (ap.endLine == cp.line)
  | .new f es, .Call (.Name x _) xs [] _ => (match Γ.nw f with
      | some k => decide (Γ.cls k = some x)
      | none => false) && glB sc x && chks sc true es xs && decide (xs.length ≠ 0)
  | .bi b es, .Call (.Name x _) xs [] _ => decide (x = biName b) && freeB Γ sc x && chks sc false es xs && decide (es.length = biAr b)
  | .lrng a, .Call (.Name x _) [.Call (.Name y _) [z] [] _] [] _ => decide (x = "list") && decide (y = "range") && freeB Γ sc x && freeB Γ sc y && chk sc a z && noStar z
  | .isi a ts, .Call (.Name x _) [y, z] [] _ => decide (x = "isinstance") && freeB Γ sc x && chk sc a y && noStar y && noStar z && tyArg Γ sc ts z
  | .get1 o k, .Call (.Attribute x m ap) [y] [] cp => decide (m = "get") && chk sc o x && notCall0 x && chk sc k y && noStar y && (ap.endLine == cp.line)
  | .get2 o k d, .Call (.Attribute x m ap) [y, z] [] cp => decide (m = "get") && chk sc o x && notCall0 x && chk sc k y && chk sc d z && decide (mdOf Γ d ≠ .rd) && noStar y && noStar z && (ap.endLine == cp.line)
  | .index o v, .Call (.Attribute x m ap) [y] [] cp => decide (m = "index") && chk sc o x && notCall0 x && chk sc v y && noStar y && (ap.endLine == cp.line)
  | .fld o f, .Attribute x m _ => decide (f = m) && chk sc o x && notCall0 x
  | .lc own elt p it cnd, .ListComp e [⟨tg, iter, ifs, n⟩] scope _ => decide (n = 0) && chkI sc false it iter tg && blkC N sc scope (ownNames N own) && decide ((ownNames N own).map (·.2) = own) && ptB N scope p tg && (p.slots.all fun i => own.contains i) && chk (relS scope sc) elt e && decide (mdOf Γ elt ≠ .rd) && (match ifs with
      | [] => cnd.isNop
      | [u] => !cnd.isNop && chk (relS scope sc) cnd u && notIf u
      | _ => false)
  | .dc _ own kx vx p it cnd, .DictComp ke ve [⟨tg, iter, ifs, n⟩] scope _ => decide (n = 0) && chkI sc false it iter tg && blkC N sc scope (ownNames N own) && decide ((ownNames N own).map (·.2) = own) && ptB N scope p tg && (p.slots.all fun i => own.contains i) && chk (relS scope sc) kx ke && chk (relS scope sc) vx ve && decide (mdOf Γ vx ≠ .rd) && (match ifs with
      | [] => cnd.isNop
      | [u] => !cnd.isNop && chk (relS scope sc) cnd u && notIf u
      | _ => false)
  | _, _ => false
/-- all: none is handed on to be read alone -/
def chks (sc : Scope) (all : Bool) : Es → List Expr → Bool
  | .nil, [] => true
  | .cons e r, x :: xs => chk sc e x && noStar x && (!all || decide (mdOf Γ e ≠ .rd)) && chks sc all r xs
  | _, _ => false
/-- what is walked, and the target -/
def chkI (sc : Scope) (all : Bool) : It → Expr → Expr → Bool
  | .l e, x, _ => chk sc e x && (!all || decide (mdOf Γ e ≠ .rd)) && (match x with | .Set _ _ _ => false | _ => true)
  | .s e, x, _ => chk sc e x && (match x with | .Set _ _ _ => false | _ => true)
  | .r1 a, .Call (.Name x _) [y] [] _, _ => decide (x = "range") && freeB Γ sc x && chk sc a y && noStar y
  | .r2 a b, .Call (.Name x _) [y, z] [] _, _ => decide (x = "range") && freeB Γ sc x && chk sc a y && chk sc b z && noStar y && noStar z
  | .en e, .Call (.Name x _) [y] [] _, .Tuple _ _ _ => (!all || decide (mdOf Γ e ≠ .rd)) && decide (x = "enumerate") && freeB Γ sc x && chk sc e y && noStar y
  | .zp a b, .Call (.Name x _) [y, z] [] _, .Tuple _ _ _ => (!all || (decide (mdOf Γ a ≠ .rd) && decide (mdOf Γ b ≠ .rd))) && decide (x = "zip") && freeB Γ sc x && chk sc a y && chk sc b z && noStar y && noStar z
  | _, _, _ => false
end
/-- names on the left of a, b = .. -/
def parNames (sc : Scope) : List Nat → List Expr → Bool
  | [], [] => true
  | i :: is, .Name x _ :: es => decide (N[i]? = some x) && locB sc x && parNames sc is es
  | _, _ => false
/-- stored from the right -/
def swB (sc : Scope) : List Expr → List Expr → Bool
  | [.Name x px, .Name y py], [a, b] => onlyLoc sc x && onlyLoc sc y && (py.line == px.line) && !(x == y) && !(foldedForSure 8 a && foldedForSure 8 b) && !(constantsAlone 8 a && constantsAlone 8 b)
  | [.Name x px, .Name y py, .Name z pz], [a, b, d] => onlyLoc sc x && onlyLoc sc y && onlyLoc sc z && (py.line == px.line) && (pz.line == px.line) && !(x == y) && !(x == z) && !(y == z) && !(foldedForSure 8 a && foldedForSure 8 b && foldedForSure 8 d) && !(constantsAlone 8 a && constantsAlone 8 b && constantsAlone 8 d)
  | _, _ => false
/-- stored from the left -/
def noSwB (sc : Scope) : List Expr → List Expr → Bool
  | [.Name x px, .Name y py], [a, b] => !onlyLoc sc x || !onlyLoc sc y || (foldedForSure 8 a && foldedForSure 8 b)
  | [.Name x px, .Name y py, .Name z pz], [a, b, d] => !onlyLoc sc x || !onlyLoc sc y || !onlyLoc sc z || (foldedForSure 8 a && foldedForSure 8 b && foldedForSure 8 d)
  | _, _ => false
/-- a name as the object of a method -/
def nameAt (sc : Scope) (i : Nat) : Expr → Bool
  | .Name x _ => decide (N[i]? = some x) && visB sc x && okN x
  | _ => false
def popB (sc : Scope) (i : Nat) (k : E) : Expr → Bool
  | .Call (.Attribute x m ap) [y] [] cp => decide (m = "pop") && nameAt N sc i x && chk Γ N sc k y && noStar y && (ap.endLine == cp.line)
  | _ => false
mutual
def chkS (sc : Scope) : S → Stmt → Bool
  | .skip, .Pass _ => true
  | .skip, .Expr (.Constant (.str _) _ _) _ => true
  | .asg i e, .Assign [.Name x _] y _ => decide (N[i]? = some x) && locB sc x && chk Γ N sc e y && decide (mdOf Γ e ≠ .rd) && (match y with
      | .ListComp _ _ _ _ => true
      | z => notComp z)
  | .par is es, .Assign [.Tuple ts _ _] (.Tuple vs _ _) _ => parNames N sc is ts && chks Γ N sc true es vs && decide (is.length = es.length) && decide (is.Nodup) && decide (is.length < 20) && (swB sc ts vs || noSwB sc ts vs)
  | .unp p e, .Assign [.Tuple ts k tp] y sp => ptB N sc p (.Tuple ts k tp) && chk Γ N sc e y && decide (mdOf Γ e ≠ .rd) && notComp y && (match y with
      | .Tuple _ _ _ => false
      | _ => true)
  | .app i e, .Expr (.Call (.Attribute x m ap) [y] [] cp) _ => decide (m = "append") && nameAt N sc i x && chk Γ N sc e y && decide (mdOf Γ e ≠ .rd) && noStar y && (ap.endLine == cp.line)
  | .ext i e, .Expr (.Call (.Attribute x m ap) [y] [] cp) _ => decide (m = "extend") && nameAt N sc i x && chk Γ N sc e y && decide (mdOf Γ e ≠ .rd) && noStar y && (ap.endLine == cp.line)
  | .seti i k e, .Assign [.Subscript x y _] z _ => nameAt N sc i x && chk Γ N sc k y && chk Γ N sc e z && decide (mdOf Γ e ≠ .rd) && notSl y
  | .pop p i k, .Assign [tg] y _ => ptB N sc p tg && popB Γ N sc i k y && !(p.slots.contains i)
  | .apop h i k, .Expr (.Call (.Attribute x m ap) [y] [] cp) _ => decide (m = "append") && nameAt N sc h x && popB Γ N sc i k y && (ap.endLine == cp.line)
  | .ex e, .Expr y _ => chk Γ N sc e y && notComp y
  | .if_ t a b, .If u x y _ => chk Γ N sc t u && notIf u && chkSs sc a x && chkSs sc b y
  | .for_ p it b, .For tg iter x [] _ => chkI Γ N sc true it iter tg && ptB N sc p tg && chkSs sc b x
  | .wh t b, .While u x [] _ => chk Γ N sc t u && notIf u && chkSs sc b x
  | .ret e, .Return (some y) _ => chk Γ N sc e y
  | .retN, .Return none _ => true
  | .brk, .Break _ => true
  | .cont, .Continue _ => true
  | .bad, _ => true
  | _, _ => false
def chkSs (sc : Scope) : S → List Stmt → Bool
  | .skip, [] => true
  | .seq (.frz _) b, sts => chkSs sc b sts
  | .seq a b, st :: sts => chkS sc a st && chkSs sc b sts
  | .bad, _ => true
  | _, _ => false
end
end
end IR
end
section
set_option Elab.async false
set_option linter.all false
set_option maxRecDepth 100000
set_option maxHeartbeats 4100000
namespace IR
open L2 PySem PySem.Spec PyProof.Rows

/-! ## soundness: what stands -/
structure Cg extends Cf where
  ecl : Nat → Addr
  efl : Nat → Str
def SlOk (c : Cf) (G : Hp) (σ : L2.St) (H : Hp) (j : Nat) : Slot → Prop
  | .no => True
  | .sh d => ∃ v, σ[j]? = some (some v) ∧ Rep c G v d
  | .own d => ∃ p, σ[j]? = some (some (.ref p)) ∧ G p = none ∧ ¬ inT c p ∧ Top c G H p d
structure EI (c : Cf) (G : Hp) (σ : L2.St) (ρ : Env) (H : Hp) (ds : DS) : Prop where
  ln : ρ.length = σ.length
  on : On G H
  tn : ∀ a, inT c a → G a = none
  st : StO c H ds
  sl : ∀ j x, ρ[j]? = some x → SlOk c G σ H j x
theorem EI.step {c : Cf} {G G' H H' : Hp} {σ : L2.St} {ρ : Env} {ds ds' : DS} (e : EI c G σ ρ H ds) (n : On G' H') (s : Stp c G H G' H') (t : StO c H' ds') : EI c G' σ ρ H' ds' := by
  refine ⟨e.ln, n, fun a ha => s.nw a (e.st.there ha) (e.tn a ha), t, fun j x hx => ?_⟩
  have h := e.sl j x hx
  cases x with
  | no => trivial
  | sh d =>
    obtain ⟨v, h1, h2⟩ := h
    exact ⟨v, h1, h2.mono s.ex⟩
  | own d =>
    obtain ⟨p, h1, h2, h3, h4⟩ := h
    exact ⟨p, h1, s.nw p h4.there h2, h3, h4.mono s.ex (s.kp p h4.there h3)⟩
/-- what is wanted of a result, from G, H on -/
def PostG {α β : Type} (c : Cg) (E0 : XK) (R : Hp → Hp → Hp → β → α → Prop) (G H : Hp) (r : Out α) (Q : β → Hp → Prop) : Prop := match r with
  | .ok d ds => ∀ G' H' v, On G' H' → Stp c.toCf G H G' H' → StO c.toCf H' ds → R H G' H' v d → Q v H'
  | .er n d ds => ∀ G' H' dx v, On G' H' → Stp c.toCf G H G' H' → StO c.toCf H' ds → H' dx = some (.xd [(c.efl n, v)]) → Rep c.toCf G' v d → E0 (.ref (c.ecl n)) (some dx) H'
  | .no => False
abbrev Post (c : Cg) (E0 : XK) (m : Md) (G H : Hp) (r : Out D) (Q : VK) : Prop := PostG c E0 (RO c.toCf m) G H r Q
/-- what is new later is new now -/
def MonoR {α β : Type} (R : Hp → Hp → Hp → β → α → Prop) : Prop := ∀ H H1 G' H' v a, (∀ p, H1 p = none → H p = none) → R H1 G' H' v a → R H G' H' v a
theorem mono_ro {c : Cf} (m : Md) : MonoR (RO c m) := fun H H1 G' H' v d f r => by
  cases m with
  | rep => exact r
  | rd => exact r
  | fr =>
    rcases r with r | ⟨p, h1, h2, h3, h4, h5⟩
    · exact .inl r
    · exact .inr ⟨p, h1, f p h2, h3, h4, h5⟩
section
variable {c : Cg} {E0 : XK} {m m' : Md} {G G1 G2 H H1 H2 : Hp} {σ : L2.St} {ρ : Env} {ds ds1 : DS} {Q : VK}
theorem PostG.shift {α β : Type} {R : Hp → Hp → Hp → β → α → Prop} (M : MonoR R) {r : Out α} {Q : β → Hp → Prop} (h : PostG c E0 R G H r Q) (s : Stp c.toCf G H G1 H1) (t : StO c.toCf H1 ds1) : PostG c E0 R G1 H1 r Q := by
  cases r with
  | no => exact h
  | ok d dz => exact fun G' H' v n s' t' r => h G' H' v n (s.trans t s') t' (M _ _ _ _ _ _ (fun p q => s.fresh t q) r)
  | er n d dz => exact fun G' H' dx v n s' t' hx r => h G' H' dx v n (s.trans t s') t' hx r
/-- one gives rd, another wants less -/
theorem Post.rd {r : Out D} (h : Post c E0 .rd G H r Q) : Post c E0 m G H r Q := by
  cases r with
  | no => exact h
  | ok d dz => exact fun G' H' v n s t r => h G' H' v n s t r.rd
  | er n d dz => exact h
theorem Post.rep (hm : m ≠ .rd) {r : Out D} (h : Post c E0 .rep G H r Q) : Post c E0 m G H r Q := by
  cases r with
  | no => exact h
  | er n d dz => exact h
  | ok d dz =>
    intro G' H' v n s t r
    cases m with
    | rep => exact h G' H' v n s t r
    | rd => exact absurd rfl hm
    | fr =>
      obtain ⟨G2, e, n2, s2, r2⟩ := r.settle n s
      exact h G2 H' v n2 s2 t r2
/-- the same heap -/
theorem Post.same {d : D} (h : Post c E0 m G H (.ok d ds) Q) (e : EI c.toCf G σ ρ H ds) {v : V} (r : Rep c.toCf G v d) (hm : m = .fr → isC d = false := by first | (intro h; cases h; done) | (intro _; rfl)) : Q v H := by
  refine h G H v e.on (Stp.refl _ _ _) e.st ?_
  cases m with
  | rep => exact r
  | fr => exact .inl ⟨r, hm rfl⟩
  | rd => exact .inl r
/-- a new object -/
theorem Post.new {d : D} (h : Post c E0 .fr G H (.ok d ds) Q) (e : EI c.toCf G σ ρ H ds) {p : Addr} {o : HO} (hp : H p = none) (r : Top c.toCf G (upd H p o) p d) : Q (.ref p) (upd H p o) :=
  h G _ _ (e.on.alloc hp) (Stp.alloc hp) (e.st.alloc hp) (.inr ⟨p, rfl, hp, e.on.free hp, fun t => e.st.there t hp, r⟩)
/-- a new object, known at once -/
theorem Post.newK {d : D} (h : Post c E0 .rep G H (.ok d ds) Q) (e : EI c.toCf G σ ρ H ds) {p : Addr} {o : HO} (hp : H p = none) (r : Rep c.toCf (upd G p o) (.ref p) d) : Q (.ref p) (upd H p o) :=
  h _ _ _ ((e.on.alloc hp).know upd_same) ((Stp.alloc hp).know (e.on.free hp) hp) (e.st.alloc hp) r
end
/-! ### the readings -/
def tE (c : Cg) (E0 : XK) (m : Md) (ρ : Env) (o : DS → Out D) : TE := fun σ H Q => ∃ G ds, EI c.toCf G σ ρ H ds ∧ Post c E0 m G H (o ds) Q
def tT (c : Cg) (E0 : XK) (ρ : Env) (o : DS → Out D) : TT := fun σ H Q => tE c E0 .rd ρ (fun ds => (o ds).bind boolO) σ H (fun x H' => ∃ b, x = .bl b ∧ Q b H')
section
variable {X : Cx} {e : PySem.Expr} {t t' : TE} {u u' : TT}
theorem pe_imp (h : PE X e t) (hi : ∀ σ H Q, t' σ H Q → t σ H Q) : PE X e t' := ⟨fun pins s σ H Q I q => h.run pins s σ H Q I (hi σ H Q q)⟩
theorem pe_impI (h : PE X e t) (hi : ∀ pins s σ H Q, Inv X pins σ H s → t' σ H Q → t σ H Q) : PE X e t' := ⟨fun pins s σ H Q I q => h.run pins s σ H Q I (hi pins s σ H Q I q)⟩
theorem pt_imp (h : PT X e u) (hi : ∀ σ H Q, u' σ H Q → u σ H Q) : PT X e u' := ⟨fun pins s σ H Q I q => h.run pins s σ H Q I (hi σ H Q q)⟩
theorem pw_imp (h : PW X e u) (hi : ∀ σ H Q, u' σ H Q → u σ H Q) : PW X e u' := ⟨fun wh pins s σ H Q I q => h.run wh pins s σ H Q I (hi σ H Q q)⟩
end
section
variable {c : Cg} {E0 : XK} {m m' : Md} {ρ : Env} {o : DS → Out D} {σ : L2.St} {H : Hp} {Q : VK}
theorem tE_rd (h : tE c E0 .rd ρ o σ H Q) : tE c E0 m ρ o σ H Q := by
  obtain ⟨G, ds, e, h⟩ := h
  exact ⟨G, ds, e, h.rd⟩
theorem tE_rep (hm : m ≠ .rd) (h : tE c E0 .rep ρ o σ H Q) : tE c E0 m ρ o σ H Q := by
  obtain ⟨G, ds, e, h⟩ := h
  exact ⟨G, ds, e, h.rep hm⟩
/-- an expression of its own kind may be read, may be known -/
theorem pe_rd {X : Cx} {x : PySem.Expr} (h : PE X x (tE c E0 m ρ o)) : PE X x (tE c E0 .rd ρ o) := pe_imp h fun _ _ _ q => tE_rd q
theorem pe_rep {X : Cx} {x : PySem.Expr} (h : PE X x (tE c E0 m ρ o)) (hm : m ≠ .rd) : PE X x (tE c E0 .rep ρ o) := pe_imp h fun _ _ _ q => tE_rep hm q
/-- first one, then another -/
theorem postG_seq {α1 β1 α2 β2 : Type} {R1 : Hp → Hp → Hp → β1 → α1 → Prop} {R2 : Hp → Hp → Hp → β2 → α2 → Prop} (M : MonoR R2) {G : Hp} {ds : DS} {o : DS → Out α1} {f : α1 → DS → Out α2} {Q : β2 → Hp → Prop} {R : β1 → Hp → Prop} (e : EI c.toCf G σ ρ H ds)
    (h : PostG c E0 R2 G H ((o ds).bind f) Q) (k : ∀ G1 H1 x d ds1, EI c.toCf G1 σ ρ H1 ds1 → Stp c.toCf G H G1 H1 → R1 H G1 H1 x d → PostG c E0 R2 G1 H1 (f d ds1) Q → R x H1) : PostG c E0 R1 G H (o ds) R := by
  cases q : o ds with
  | no => rw [q] at h; exact h
  | er n d dz => rw [q] at h; exact h
  | ok d dz =>
    rw [q] at h
    intro G1 H1 x n s t r
    exact k G1 H1 x d dz (e.step n s t) s r (h.shift M s t)
theorem post_seq {G : Hp} {ds : DS} {f : D → DS → Out D} {R : VK} (e : EI c.toCf G σ ρ H ds) (h : Post c E0 m G H ((o ds).bind f) Q)
    (k : ∀ G1 H1 x d ds1, EI c.toCf G1 σ ρ H1 ds1 → Stp c.toCf G H G1 H1 → RO c.toCf m' H G1 H1 x d → Post c E0 m G1 H1 (f d ds1) Q → R x H1) : Post c E0 m' G H (o ds) R :=
  postG_seq (mono_ro m) e h k
theorem tE_seq {f : D → DS → Out D} {R : VK} (h : tE c E0 m ρ (fun ds => (o ds).bind f) σ H Q)
    (k : ∀ G1 H1 x d ds1, EI c.toCf G1 σ ρ H1 ds1 → RO c.toCf m' H G1 H1 x d → Post c E0 m G1 H1 (f d ds1) Q → R x H1) : tE c E0 m' ρ o σ H R := by
  obtain ⟨G, ds, e, h⟩ := h
  exact ⟨G, ds, e, post_seq e h fun G1 H1 x d ds1 e1 _ r p => k G1 H1 x d ds1 e1 r p⟩
theorem bin_wp {o2 : DS → Out D} {f : D → D → DS → Out D} {R : V → V → Hp → Prop} (h : tE c E0 m ρ (fun ds => (o ds).bind fun x s => (o2 s).bind fun y s => f x y s) σ H Q)
    (k : ∀ G2 H2 x y dx dy ds2, EI c.toCf G2 σ ρ H2 ds2 → RO c.toCf .rd H2 G2 H2 x dx → RO c.toCf .rd H2 G2 H2 y dy → Post c E0 m G2 H2 (f dx dy ds2) Q → R x y H2) :
    tE c E0 .rd ρ o σ H (fun x H1 => tE c E0 .rd ρ o2 σ H1 (fun y H2 => R x y H2)) :=
  tE_seq h fun G1 H1 x dx ds1 e1 r1 p1 => ⟨G1, ds1, e1, post_seq (R := fun y H2 => R x y H2) e1 p1 fun G2 H2 y dy ds2 e2 s2 r2 p2 => k G2 H2 x y dx dy ds2 e2 (r1.keep s2) r2 p2⟩
theorem tri_wp {o2 o3 : DS → Out D} {f : D → D → D → DS → Out D} {R : V → V → V → Hp → Prop} (h : tE c E0 m ρ (fun ds => (o ds).bind fun x s => (o2 s).bind fun y s => (o3 s).bind fun z s => f x y z s) σ H Q)
    (k : ∀ G2 H2 x y z dx dy dz ds2, EI c.toCf G2 σ ρ H2 ds2 → RO c.toCf .rd H2 G2 H2 x dx → RO c.toCf .rd H2 G2 H2 y dy → RO c.toCf m' H2 G2 H2 z dz → Post c E0 m G2 H2 (f dx dy dz ds2) Q → R x y z H2) (hm : m' ≠ .fr) :
    tE c E0 .rd ρ o σ H (fun x H1 => tE c E0 .rd ρ o2 σ H1 (fun y H2 => tE c E0 m' ρ o3 σ H2 (fun z H3 => R x y z H3))) :=
  tE_seq h fun G1 H1 x dx ds1 e1 r1 p1 => ⟨G1, ds1, e1, post_seq (R := fun y H2 => tE c E0 m' ρ o3 σ H2 (fun z H3 => R x y z H3)) e1 p1 fun G2 H2 y dy ds2 e2 s2 r2 p2 =>
    ⟨G2, ds2, e2, post_seq (R := fun z H3 => R x y z H3) e2 p2 fun G3 H3 z dz ds3 e3 s3 r3 p3 => k G3 H3 x y z dx dy dz ds3 e3 ((r1.keep s2).keep s3) (r2.keep s3) (by cases m' with | rep => exact r3 | rd => exact r3 | fr => exact absurd rfl hm) p3⟩⟩
end
/-! ### what stands at a readable thing -/
section
variable {c : Cf} {H0 G H : Hp} {v : V} {m : Md}
theorem ro_int {i : Int} (r : RO c .rd H0 G H v (.int i)) : v = .int i := by
  rcases r with r | ⟨p, _, _, _, t⟩
  · cases r; rfl
  · cases t
theorem ro_bl {i : Bool} (r : RO c .rd H0 G H v (.bl i)) : v = .bl i := by
  rcases r with r | ⟨p, _, _, _, t⟩
  · cases r; rfl
  · cases t
theorem ro_str {i : Str} (r : RO c .rd H0 G H v (.str i)) : v = .str i := by
  rcases r with r | ⟨p, _, _, _, t⟩
  · cases r; rfl
  · cases t
theorem ro_non (r : RO c .rd H0 G H v .non) : v = .non := by
  rcases r with r | ⟨p, _, _, _, t⟩
  · cases r; rfl
  · cases t
theorem on_at {a : Addr} {o : HO} (n : On G H) (h : G a = some o) (hd : ¬ isDk o) : H a = some o := by
  rcases n a o h with e | ⟨z, _⟩
  · exact e
  · exact absurd z hd
theorem on_rd {a : Addr} {o : HO} (n : On G H) (h : G a = some o) : Rd H a o := by
  rcases n a o h with e | ⟨_, b, e⟩
  · exact .inl e
  · exact .inr ⟨b, e⟩
theorem ro_lst {ds : List D} (n : On G H) (r : RO c .rd H0 G H v (.lst ds)) : ∃ p xs, v = .ref p ∧ H p = some (.lst xs) ∧ Reps c G xs ds := by
  rcases r with r | ⟨p, rfl, _, _, t⟩
  · cases r with
    | lst h r => exact ⟨_, _, rfl, on_at n h (fun z => z), r⟩
  · cases t with
    | lst h r => exact ⟨_, _, rfl, h, r⟩
theorem ro_tup {ds : List D} (n : On G H) (r : RO c .rd H0 G H v (.tup ds)) : ∃ p xs, v = .ref p ∧ H p = some (.tup xs) ∧ G p = some (.tup xs) ∧ Reps c G xs ds := by
  rcases r with r | ⟨p, rfl, _, _, t⟩
  · cases r with
    | tup h r => exact ⟨_, _, rfl, on_at n h (fun z => z), h, r⟩
  · cases t
theorem ro_dk {ds : List (Ky × D)} (n : On G H) (r : RO c .rd H0 G H v (.dct false ds)) : ∃ p xs, v = .ref p ∧ Rd H p (.dK xs) ∧ RepK c G xs ds := by
  rcases r with r | ⟨p, rfl, _, _, t⟩
  · cases r with
    | dk h r => exact ⟨_, _, rfl, on_rd n h, r⟩
  · cases t with
    | dk h r => exact ⟨_, _, rfl, .inl h, r⟩
theorem ro_dt {ds : List (Ky × D)} (n : On G H) (r : RO c .rd H0 G H v (.dct true ds)) : ∃ p xs, v = .ref p ∧ Rd H p (.dT xs) ∧ RepT c G xs ds := by
  rcases r with r | ⟨p, rfl, _, _, t⟩
  · cases r with
    | dt h r => exact ⟨_, _, rfl, on_rd n h, r⟩
  · cases t with
    | dt h r => exact ⟨_, _, rfl, .inl h, r⟩
theorem ro_obj {k : Nat} {ds : List (Str × D)} (n : On G H) (r : RO c .rd H0 G H v (.obj k ds)) : ∃ p dx fs, v = .ref p ∧ H p = some (.ins (c.cl k) dx fs) ∧ RepF c G fs ds := by
  rcases r with r | ⟨p, rfl, _, _, t⟩
  · cases r with
    | obj h hd r => exact ⟨_, _, _, rfl, on_at n h (fun z => z), r⟩
  · cases t
theorem Reps.len {xs : List V} {ds : List D} (r : Reps c G xs ds) : xs.length = ds.length := by
  induction ds generalizing xs with
  | nil => cases r; rfl
  | cons d ds ih => cases r with
    | cons h r => simp [ih r]
theorem Reps.get : ∀ {ds : List D} {xs : List V} {i : Nat} {d : D}, Reps c G xs ds → ds[i]? = some d → ∃ x, xs[i]? = some x ∧ Rep c G x d
  | _, _, _, _, .nil, h => by simp at h
  | _, _, 0, _, .cons h r, e => by simp at e; subst e; exact ⟨_, rfl, h⟩
  | _, _, i + 1, d, .cons h r, e => by
    obtain ⟨x, h1, h2⟩ := Reps.get (i := i) (d := d) r (by simpa using e)
    (exact ⟨x, by simpa using h1, h2⟩)
theorem Reps.get' : ∀ {xs : List V} {ds : List D} {i : Nat} {x : V}, Reps c G xs ds → xs[i]? = some x → ∃ d, ds[i]? = some d ∧ Rep c G x d
  | _, _, _, _, .nil, h => by simp at h
  | _, _, 0, _, .cons h r, e => by simp at e; subst e; exact ⟨_, rfl, h⟩
  | _, _, i + 1, d, .cons h r, e => by
    obtain ⟨x, h1, h2⟩ := Reps.get' (i := i) (x := d) r (by simpa using e)
    (exact ⟨x, by simpa using h1, h2⟩)
theorem Reps.append : ∀ {ds es : List D} {xs ys : List V}, Reps c G xs ds → Reps c G ys es → Reps c G (xs ++ ys) (ds ++ es)
  | _, _, _, _, .nil, s => s
  | _, _, _, _, .cons h r, s => .cons h (r.append s)
theorem Reps.take : ∀ {ds : List D} {xs : List V} (n : Nat), Reps c G xs ds → Reps c G (xs.take n) (ds.take n)
  | _, _, 0, _ => .nil
  | _, _, _ + 1, .nil => .nil
  | _, _, n + 1, .cons h r => .cons h (r.take n)
theorem Reps.drop : ∀ {ds : List D} {xs : List V} (n : Nat), Reps c G xs ds → Reps c G (xs.drop n) (ds.drop n)
  | _, _, 0, r => r
  | _, _, _ + 1, .nil => .nil
  | _, _, n + 1, .cons h r => r.drop n
theorem Reps.set : ∀ {ds : List D} {xs : List V} {v : V} {d : D} (i : Nat), Rep c G v d → Reps c G xs ds → Reps c G (xs.set i v) (ds.set i d)
  | _, _, _, _, _, _, .nil => .nil
  | _, _, _, _, 0, h, .cons _ r => .cons h r
  | _, _, _, _, i + 1, h, .cons q r => .cons q (r.set i h)
theorem Reps.erase : ∀ {ds : List D} {xs : List V} (i : Nat), Reps c G xs ds → Reps c G (xs.eraseIdx i) (ds.eraseIdx i)
  | _, _, _, .nil => .nil
  | _, _, 0, .cons _ r => r
  | _, _, i + 1, .cons q r => .cons q (r.erase i)
theorem Reps.atI {ds : List D} {xs : List V} {i : Int} {d : D} (r : Reps c G xs ds) (h : L2.atI ds i = some d) : ∃ x, L2.atI xs i = some x ∧ Rep c G x d := by
  unfold L2.atI at h ⊢
  rw [r.len]
  cases e : ixN ds.length i with
  | none => (rw [e] at h; cases h)
  | some j =>
    rw [e] at h
    exact r.get h
theorem Reps.cut {ds : List D} {xs : List V} {lo hi : Option Int} (r : Reps c G xs ds) : Reps c G (cutV xs lo hi) (cutL ds lo hi) := by
  unfold cutV cutL
  rw [r.len]
  exact (r.drop _).take _
mutual
theorem rep_dp {K : PySem.W.Frag} (n : On G H) : ∀ (d : D) {v : V} {x : PyData}, Rep c G v d → toPy d = some x → Dp K H v x
  | .non, _, _, .non, h => by simp [toPy] at h; subst h; exact .non
  | .bl b, _, _, .bl _, h => by simp [toPy] at h; subst h; exact .bl b
  | .int b, _, _, .int _, h => by simp [toPy] at h; subst h; exact .int b
  | .str b, _, _, .str _, h => by simp [toPy] at h; subst h; exact .str b
  | .lst ds, _, _, .lst hg r, h => by
    simp only [toPy, Option.map_eq_some_iff] at h
    obtain ⟨xs, h1, rfl⟩ := h
    exact .lst (SqL.of (on_at n hg fun z => z)) (reps_dp n ds r h1)
  | .tup ds, _, _, .tup hg r, h => by
    simp only [toPy, Option.map_eq_some_iff] at h
    obtain ⟨xs, h1, rfl⟩ := h
    exact .tup (SqT.of (on_at n hg fun z => z)) (reps_dp n ds r h1)
  | .dct _ _, _, _, _, h => by simp [toPy] at h
  | .obj _ _, _, _, _, h => by simp [toPy] at h
  | .st, _, _, _, h => by simp [toPy] at h
theorem reps_dp {K : PySem.W.Frag} (n : On G H) : ∀ (ds : List D) {vs : List V} {xs : List PyData}, Reps c G vs ds → toPys ds = some xs → DpAll K H vs xs
  | [], _, _, .nil, h => by simp [toPys] at h; subst h; exact .nil
  | d :: ds, _, _, .cons q r, h => by
    simp only [toPys] at h
    cases h1 : toPy d with
    | none => rw [h1] at h; simp at h
    | some x =>
      cases h2 : toPys ds with
      | none => rw [h1, h2] at h; simp at h
      | some xs =>
        rw [h1, h2] at h
        simp at h; subst h
        exact .cons (rep_dp n d q h1) (reps_dp n ds r h2)
end
theorem ro_dp {K : PySem.W.Frag} {d : D} {x : PyData} (n : On G H) (r : RO c .rd H0 G H v d) (h : toPy d = some x) : Dp K H v x := by
  rcases r with r | ⟨p, rfl, _, _, t⟩
  · exact rep_dp n d r h
  · cases t with
    | lst q r =>
      simp only [toPy, Option.map_eq_some_iff] at h
      obtain ⟨xs, h1, rfl⟩ := h
      exact .lst (SqL.of q) (reps_dp n _ r h1)
    | dk q r => simp [toPy] at h
    | dt q r => simp [toPy] at h
end
end IR
end
section
set_option Elab.async false
set_option linter.all false
set_option maxRecDepth 100000
set_option maxHeartbeats 4100000
namespace IR
open L2 PySem PySem.Spec PyProof.Rows

theorem lim_eq : lim = sizeLine := by rw [sizeLine_eq]
/-! ### keys -/
theorem keysOf_get {c : Cf} {G : Hp} : ∀ {ds : List D} {xs : List V} {ks : List Key}, Reps c G xs ds → keysOf ds = some ks → xs = ks.map kV
  | _, _, _, .nil, h => by simp [keysOf] at h; subst h; rfl
  | d :: ds, _, ks, .cons q r, h => by
    cases d with
    | int i =>
      simp only [keysOf, Option.map_eq_some_iff] at h
      obtain ⟨kr, h1, rfl⟩ := h
      cases q
      rw [keysOf_get r h1]; rfl
    | str i =>
      simp only [keysOf, Option.map_eq_some_iff] at h
      obtain ⟨kr, h1, rfl⟩ := h
      cases q
      rw [keysOf_get r h1]; rfl
    | _ => simp [keysOf] at h
/-- a key's value -/
inductive KeyAt (H : Hp) : V → Ky → Prop
  | k (k : Key) : KeyAt H (kV k) (.k k)
  | t {b : Addr} {ks : List Key} (h : H b = some (.tup (ks.map kV))) : KeyAt H (.ref b) (.t ks)
theorem keyAt {c : Cf} {H0 G H : Hp} {v : V} {d : D} {k : Ky} (n : On G H) (r : RO c .rd H0 G H v d) (h : keyOf d = some k) : KeyAt H v k := by
  cases d with
  | int i => simp [keyOf] at h; subst h; rw [ro_int r]; exact .k (.inl i)
  | str i => simp [keyOf] at h; subst h; rw [ro_str r]; exact .k (.inr i)
  | tup ds =>
    simp only [keyOf, Option.map_eq_some_iff] at h
    obtain ⟨ks, h1, rfl⟩ := h
    obtain ⟨p, xs, rfl, h2, _, h3⟩ := ro_tup n r
    rw [keysOf_get h3 h1] at h2
    exact .t h2
  | _ => simp [keyOf] at h
/-- a value there or not -/
def RepO (c : Cf) (G : Hp) : Option V → Option D → Prop
  | some v, some d => Rep c G v d
  | none, none => True
  | _, _ => False
theorem dget_pos {k k' : Ky} {d : D} {r : List (Ky × D)} (e : k' = k) : dget ((k', d) :: r) k = some d := by simp [dget, e]
theorem dget_neg {k k' : Ky} {d : D} {r : List (Ky × D)} (e : ¬ k' = k) : dget ((k', d) :: r) k = dget r k := by simp [dget, List.find?_cons, e]
theorem dany_dget (kvs : List (Ky × D)) (k : Ky) : (kvs.any fun p => decide (p.1 = k)) = (dget kvs k).isSome := by
  induction kvs with
  | nil => rfl
  | cons p r ih =>
    obtain ⟨k', d⟩ := p
    by_cases e : k' = k
    · rw [dget_pos e]; simp [e]
    · rw [dget_neg e]; simpa [e] using ih
theorem RepK.get {c : Cf} {G : Hp} {k : Key} : ∀ {kvs : List (Key × V)} {ds : List (Ky × D)}, RepK c G kvs ds → RepO c G (valV kvs k) (dget ds (.k k))
  | _, _, .nil => trivial
  | _, _, @RepK.cons _ _ k' v vs d ds h r => by
    by_cases e : k' = k
    · rw [valV_pos e, dget_pos (by rw [e])]; exact h
    · rw [valV_neg e, dget_neg (by simpa using e)]; exact r.get
theorem RepT.get {c : Cf} {G : Hp} {k : List Key} : ∀ {kvs : List (List Key × V)} {ds : List (Ky × D)}, RepT c G kvs ds → RepO c G (valV kvs k) (dget ds (.t k))
  | _, _, .nil => trivial
  | _, _, @RepT.cons _ _ k' v vs d ds h r => by
    by_cases e : k' = k
    · rw [valV_pos e, dget_pos (by rw [e])]; exact h
    · rw [valV_neg e, dget_neg (by simpa using e)]; exact r.get
theorem RepO.isSome {c : Cf} {G : Hp} {v : Option V} {d : Option D} (r : RepO c G v d) : v.isSome = d.isSome := by
  cases v <;> cases d <;> first | rfl | exact r.elim
/-- the dict at a holds o at the key -/
theorem dget_at {c : Cf} {H0 G H : Hp} {x y : V} {t : Bool} {kvs : List (Ky × D)} {k : Ky} (n : On G H) (r : RO c .rd H0 G H x (.dct t kvs)) (h : KeyAt H y k) (ht : kyKind k = t) :
    ∃ a o, x = .ref a ∧ DGet H a y o ∧ RepO c G o (dget kvs k) ∧ IsD H a := by
  cases h with
  | k k =>
    have e : t = false := ht.symm
    subst e
    obtain ⟨p, xs, rfl, h1, h2⟩ := ro_dk n r
    exact ⟨p, _, rfl, .inl ⟨xs, k, h1, rfl, rfl⟩, h2.get, .inl ⟨xs, h1⟩⟩
  | @t b ks hb =>
    have e : t = true := ht.symm
    subst e
    obtain ⟨p, xs, rfl, h1, h2⟩ := ro_dt n r
    exact ⟨p, _, rfl, .inr ⟨xs, ks, b, h1, rfl, hb, rfl⟩, h2.get, .inr ⟨xs, h1⟩⟩
theorem isD_at' {c : Cf} {H0 G H : Hp} {x : V} {t : Bool} {kvs : List (Ky × D)} (n : On G H) (r : RO c .rd H0 G H x (.dct t kvs)) : ∃ a, x = .ref a ∧ IsD H a := by
  cases t with
  | false =>
    obtain ⟨p, xs, rfl, h1, h2⟩ := ro_dk n r
    exact ⟨p, rfl, .inl ⟨xs, h1⟩⟩
  | true =>
    obtain ⟨p, xs, rfl, h1, h2⟩ := ro_dt n r
    exact ⟨p, rfl, .inr ⟨xs, h1⟩⟩
/-! ### operators -/
section
variable {X : Cx}
def rDIn (neg : Bool) : R2 := fun y x H Q => ∃ a o, x = .ref a ∧ DGet H a y o ∧ Q (.bl (if neg then !o.isSome else o.isSome)) H
theorem op_din (hu : X.A.units + 1 < cLine) : OpR X (compareOp .In) (rDIn false) := by
  (intro pins s σ H x y v u Q I rx ry h)
  obtain ⟨a, o, rfl, g, q⟩ := h
  cases ry
  exact d_in hu I g rx fun s3 I3 => ⟨.bl o.isSome, H, I3, rfl, q⟩
theorem op_dnotin (hu : X.A.units + 1 < cLine) : OpR X (compareOp .NotIn) (rDIn true) := by
  (intro pins s σ H x y v u Q I rx ry h)
  obtain ⟨a, o, rfl, g, q⟩ := h
  cases ry
  exact d_notIn hu I g rx fun s3 I3 => ⟨.bl (!o.isSome), H, I3, rfl, q⟩
def rIxD : R2 := fun x y H Q => ∃ a v, x = .ref a ∧ DGet H a y (some v) ∧ Q v H
theorem ix_dict (hu : X.A.units + 1 < cLine) : IxR X rIxD := by
  (intro value slice pins s σ H x y v u Q I rx ry h hs)
  obtain ⟨a, w, rfl, g, q⟩ := h
  cases rx
  exact tail_any (dict_typeIs I g) PySem.F.slot_dict_getitem.lookup (d_getItem hu I g ry fun w' s3 I3 rw' => ⟨w, H, I3, rw', q⟩) hs
def bMd (o : Bop) : Md := match o with
  | .add => .fr
  | _ => .rep
theorem bin_ok (X : Cx) {o : Bop} {op : Operator} (h : opB o op = true) : ∃ r : R2, OpR X (binaryOp op) r ∧ ∀ {c : Cg} {E0 : XK} {G H H0 : Hp} {σ : L2.St} {ρ : Env} {ds : DS} {x y : V} {dx dy d : D} {Q : VK}, EI c.toCf G σ ρ H ds →
    RO c.toCf .rd H0 G H x dx → RO c.toCf .rd H0 G H y dy → binD o dx dy = some d → Post c E0 (bMd o) G H (.ok d ds) Q → r x y H Q := by
  cases o with
  | add =>
    cases op <;> first | (simp [opB] at h; done) | skip
    refine ⟨_, op_add.or (op_add_str.or op_cat), fun {c E0 G H H0 σ ρ ds x y dx dy d Q} e rx ry hd p => ?_⟩
    unfold binD at hd
    split at hd <;> try (cases hd; done)
    all_goals first
      | (rename_i h0; cases h0; done)
      | skip
    · cases hd
      rw [ro_int rx, ro_int ry]
      exact .inl ⟨_, _, rfl, rfl, p.same e (.int _)⟩
    · rename_i i j
      split at hd
      · rename_i hl
        cases hd
        rw [ro_str rx, ro_str ry]
        exact .inr (.inl ⟨_, _, rfl, rfl, by rw [← lim_eq]; exact hl, p.same e (.str _)⟩)
      · cases hd
    · rename_i i j
      split at hd
      · rename_i hl
        cases hd
        obtain ⟨a, xs, rfl, h1, h2⟩ := ro_lst e.on rx
        obtain ⟨b, ys, rfl, h3, h4⟩ := ro_lst e.on ry
        exact .inr (.inr ⟨a, b, xs, ys, rfl, rfl, h1, h3, by rw [h2.len, h4.len, ← lim_eq]; exact hl, fun q hq => p.new e hq (.lst upd_same (h2.append h4))⟩)
      · cases hd
  | sub =>
    cases op <;> first | (simp [opB] at h; done) | skip
    refine ⟨_, op_sub, fun {c E0 G H H0 σ ρ ds x y dx dy d Q} e rx ry hd p => ?_⟩
    unfold binD at hd
    split at hd <;> try (cases hd; done)
    all_goals first
      | (rename_i h0; cases h0; done)
      | skip
    cases hd
    rw [ro_int rx, ro_int ry]
    exact ⟨_, _, rfl, rfl, p.same e (.int _)⟩
  | mul =>
    cases op <;> first | (simp [opB] at h; done) | skip
    refine ⟨_, op_mul, fun {c E0 G H H0 σ ρ ds x y dx dy d Q} e rx ry hd p => ?_⟩
    unfold binD at hd
    split at hd <;> try (cases hd; done)
    all_goals first
      | (rename_i h0; cases h0; done)
      | skip
    split at hd
    · rename_i hl
      cases hd
      rw [ro_int rx, ro_int ry]
      exact ⟨_, _, rfl, rfl, hl, p.same e (.int _)⟩
    · cases hd
  | fdiv =>
    cases op <;> first | (simp [opB] at h; done) | skip
    refine ⟨_, op_fdiv, fun {c E0 G H H0 σ ρ ds x y dx dy d Q} e rx ry hd p => ?_⟩
    unfold binD at hd
    split at hd <;> try (cases hd; done)
    all_goals first
      | (rename_i h0; cases h0; done)
      | skip
    split at hd
    · rename_i hl
      cases hd
      rw [ro_int rx, ro_int ry]
      exact ⟨_, _, rfl, rfl, hl, p.same e (.int _)⟩
    · cases hd
  | mod =>
    cases op <;> first | (simp [opB] at h; done) | skip
    refine ⟨_, op_mod, fun {c E0 G H H0 σ ρ ds x y dx dy d Q} e rx ry hd p => ?_⟩
    unfold binD at hd
    split at hd <;> try (cases hd; done)
    all_goals first
      | (rename_i h0; cases h0; done)
      | skip
    split at hd
    · rename_i hl
      cases hd
      rw [ro_int rx, ro_int ry]
      exact ⟨_, _, rfl, rfl, hl, p.same e (.int _)⟩
    · cases hd
theorem eq_dp {K : PySem.W.Frag} {c : Cf} {G H H0 : Hp} {x y : V} {dx dy : D} {b : Bool} (n : On G H) (rx : RO c .rd H0 G H x dx) (ry : RO c .rd H0 G H y dy) (h : eqD dx dy = some b) :
    ∃ d e, Dp K H x d ∧ Dp K H y e ∧ SeqAt.shaped d = true ∧ SeqAt.shaped e = true ∧ PyData.eqv d e = b := by
  unfold eqD at h
  split at h
  · rename_i d e h1 h2
    split at h
    · rename_i h3
      simp only [Bool.and_eq_true] at h3
      cases h
      exact ⟨d, e, ro_dp n rx h1, ro_dp n ry h2, h3.1, h3.2, rfl⟩
    · cases h
  · cases h
/-- in a list, in a text, in a dict -/
theorem in_ok {c : Cf} {G H H0 : Hp} {x y : V} {dx dy : D} {b : Bool} (K : PySem.W.Frag) (n : On G H) (rx : RO c .rd H0 G H x dx) (ry : RO c .rd H0 G H y dy) (h : inD dx dy = some b) :
    (∃ d ds, Dp K H x d ∧ Dp K H y (.list ds) ∧ SeqAt.shaped d = true ∧ SeqAt.shaped (.list ds) = true ∧ (ds.any fun z => PyData.eqv z d) = b) ∨
    (∃ i j, x = .str i ∧ y = .str j ∧ (!(Builtin.Str.occurrences j i 0 j.length 1).isEmpty) = b) ∨ ∃ a o, y = .ref a ∧ DGet H a x o ∧ o.isSome = b := by
  unfold inD at h
  split at h
  · split at h
    · rename_i ds d es h1 h2
      split at h
      · rename_i h3
        simp only [Bool.and_eq_true] at h3
        cases h
        exact .inl ⟨d, es, ro_dp n rx h1, ro_dp n ry (by simp [toPy, h2]), h3.1, h3.2, rfl⟩
      · cases h
    · cases h
  · split at h
    · cases h
      exact .inr (.inl ⟨_, _, ro_str rx, ro_str ry, rfl⟩)
    · cases h
  · split at h
    · rename_i t kvs k hk
      split at h
      · rename_i h3
        obtain ⟨a, o, e1, g, r, _⟩ := dget_at n ry (keyAt n rx hk) h3
        cases h
        exact .inr (.inr ⟨a, o, e1, g, by rw [r.isSome, dany_dget]⟩)
      · cases h
    · cases h
  · cases h
theorem cmp_ok (X : Cx) (hu : X.A.units + 65 < cLine) {o : Cop} {op : CmpOp} (h : opC o op = true) : ∃ r : R2, OpR X (compareOp op) r ∧ ∀ {c : Cf} {G H H0 : Hp} {x y : V} {dx dy : D} {b : Bool} {Q : VK}, On G H →
    RO c .rd H0 G H x dx → RO c .rd H0 G H y dy → cmpD o dx dy = some b → Q (.bl b) H → r x y H Q := by
  cases o with
  | eq =>
    cases op <;> first | (simp [opC] at h; done) | skip
    refine ⟨_, op_eqD (by omega), fun {c G H H0 x y dx dy b Q} n rx ry hd q => ?_⟩
    obtain ⟨d, e, h1, h2, h3, h4, h5⟩ := eq_dp n rx ry hd
    exact ⟨d, e, h1, h2, h3, h4, by rw [h5]; exact q⟩
  | ne =>
    cases op <;> first | (simp [opC] at h; done) | skip
    refine ⟨_, op_neD (by omega), fun {c G H H0 x y dx dy b Q} n rx ry hd q => ?_⟩
    simp only [cmpD, Option.map_eq_some_iff] at hd
    obtain ⟨b', hd, rfl⟩ := hd
    obtain ⟨d, e, h1, h2, h3, h4, h5⟩ := eq_dp n rx ry hd
    exact ⟨d, e, h1, h2, h3, h4, by rw [h5]; exact q⟩
  | lt =>
    cases op <;> first | (simp [opC] at h; done) | skip
    refine ⟨_, op_lt, fun {c G H H0 x y dx dy b Q} n rx ry hd q => ?_⟩
    simp only [cmpD] at hd
    split at hd
    · cases hd; rw [ro_int rx, ro_int ry]; exact ⟨_, _, rfl, rfl, q⟩
    · cases hd
  | le =>
    cases op <;> first | (simp [opC] at h; done) | skip
    refine ⟨_, op_le, fun {c G H H0 x y dx dy b Q} n rx ry hd q => ?_⟩
    simp only [cmpD] at hd
    split at hd
    · cases hd; rw [ro_int rx, ro_int ry]; exact ⟨_, _, rfl, rfl, q⟩
    · cases hd
  | gt =>
    cases op <;> first | (simp [opC] at h; done) | skip
    refine ⟨_, op_gt, fun {c G H H0 x y dx dy b Q} n rx ry hd q => ?_⟩
    simp only [cmpD] at hd
    split at hd
    · cases hd; rw [ro_int rx, ro_int ry]; exact ⟨_, _, rfl, rfl, q⟩
    · cases hd
  | ge =>
    cases op <;> first | (simp [opC] at h; done) | skip
    refine ⟨_, op_ge, fun {c G H H0 x y dx dy b Q} n rx ry hd q => ?_⟩
    simp only [cmpD] at hd
    split at hd
    · cases hd; rw [ro_int rx, ro_int ry]; exact ⟨_, _, rfl, rfl, q⟩
    · cases hd
  | isin =>
    cases op <;> first | (simp [opC] at h; done) | skip
    refine ⟨_, (op_inD hu).or (op_in_str.or (op_din (by omega))), fun {c G H H0 x y dx dy b Q} n rx ry hd q => ?_⟩
    rcases in_ok X.K n rx ry hd with ⟨d, ds, h1, h2, h3, h4, h5⟩ | ⟨i, j, h1, h2, h3⟩ | ⟨a, o, h1, h2, h3⟩
    · exact .inl ⟨d, ds, h1, h2, h3, h4, by rw [h5]; exact q⟩
    · exact .inr (.inl ⟨i, j, h1, h2, by rw [h3]; exact q⟩)
    · exact .inr (.inr ⟨a, o, h1, h2, by show Q (.bl o.isSome) H; rw [h3]; exact q⟩)
  | notin =>
    cases op <;> first | (simp [opC] at h; done) | skip
    refine ⟨_, (op_notInD hu).or (op_notin_str.or (op_dnotin (by omega))), fun {c G H H0 x y dx dy b Q} n rx ry hd q => ?_⟩
    simp only [cmpD, Option.map_eq_some_iff] at hd
    obtain ⟨b', hd, rfl⟩ := hd
    rcases in_ok X.K n rx ry hd with ⟨d, ds, h1, h2, h3, h4, h5⟩ | ⟨i, j, h1, h2, h3⟩ | ⟨a, o, h1, h2, h3⟩
    · exact .inl ⟨d, ds, h1, h2, h3, h4, by rw [h5]; exact q⟩
    · exact .inr (.inl ⟨i, j, h1, h2, by rw [h3]; exact q⟩)
    · exact .inr (.inr ⟨a, o, h1, h2, by show Q (.bl (!o.isSome)) H; rw [h3]; exact q⟩)
/-- a[i] -/
theorem ix_ok (X : Cx) (hu : X.A.units + 1 < cLine) : ∃ r : R2, IxR X r ∧ ∀ {c : Cg} {E0 : XK} {G H H0 : Hp} {σ : L2.St} {ρ : Env} {ds : DS} {x y : V} {dx dy d : D} {Q : VK}, EI c.toCf G σ ρ H ds →
    RO c.toCf .rd H0 G H x dx → RO c.toCf .rd H0 G H y dy → subD dx dy = some d → Post c E0 .rep G H (.ok d ds) Q → r x y H Q := by
  refine ⟨_, (ix_seq (X := X)).or (ix_dict hu), fun {c E0 G H H0 σ ρ ds x y dx dy d Q} e rx ry hd p => ?_⟩
  unfold subD at hd
  split at hd
  · obtain ⟨a, xs, rfl, h1, h2⟩ := ro_lst e.on rx
    obtain ⟨v, h3, h4⟩ := h2.atI hd
    rw [ro_int ry]
    exact .inl (.inl ⟨a, xs, _, v, rfl, rfl, SqL.of h1, h3, p.same e h4⟩)
  · obtain ⟨a, xs, rfl, h1, _, h2⟩ := ro_tup e.on rx
    obtain ⟨v, h3, h4⟩ := h2.atI hd
    rw [ro_int ry]
    exact .inl (.inr (.inl ⟨a, xs, _, v, rfl, rfl, SqT.of h1, h3, p.same e h4⟩))
  · split at hd
    · rename_i s k hl
      simp only [Option.map_eq_some_iff] at hd
      obtain ⟨ch, h1, rfl⟩ := hd
      rw [ro_int ry, ro_str rx]
      exact .inl (.inr (.inr ⟨_, _, ch, rfl, rfl, by rw [← lim_eq]; exact hl, h1, p.same e (.str _)⟩))
    · cases hd
  · split at hd
    · rename_i t kvs dk k hk
      split at hd
      · rename_i ht
        obtain ⟨a, o, e1, g, r, _⟩ := dget_at e.on rx (keyAt e.on ry hk) ht
        rw [hd] at r
        cases o with
        | none => exact r.elim
        | some v => exact .inr ⟨a, v, e1, g, p.same e r⟩
      · cases hd
    · cases hd
  · cases hd
end
end IR
end
section
set_option Elab.async false
set_option linter.all false
set_option maxRecDepth 100000
set_option maxHeartbeats 4100000
namespace IR
open L2 PySem PySem.Spec PyProof.Rows

/-! ## what is known of the module -/
abbrev tyNs : List String := ["NoneType", "bool", "int", "str", "list", "tuple", "dict"]
structure ClsOk (Γ : Gm) (c : Cf) (K : PySem.W.Frag) (k : Nat) : Prop where
  cl : Cls K (c.cl k)
  ha : PySem.W.findIn K (.ref (c.cl k)) "__class__" = some (some (.builtin "object.__class__"))
  hn : PySem.W.specialIn K (.builtin "object.__class__") "__get__" =
    some (some (.builtin "getset_descriptor.__get__"))
  htk : some true = PySem.W.takesIn K (.builtin "object.__class__")
  hm : PySem.W.mroIn K (c.cl k) (.type "object") = some true
  no : ∀ n ∈ tyNs, PySem.W.kitOne K (.type n) (.ref (c.cl k)) = some false
  self : PySem.W.kitOne K (.ref (c.cl k)) (.ref (c.cl k)) = some true
  out : ∀ n ∈ tyNs, PySem.W.kitOne K (.ref (c.cl k)) (.type n) = some false
  att : ∀ x ∈ Γ.cat k, NoAttr K (c.cl k) x
/-- the promise of a def -/
def spF (Γ : Gm) (c : Cg) (cf : Nat → List D → DS → Out D) (f n : Nat) : Sp := fun vs H Q E => ∃ G as ds, On G H ∧ (∀ a, inT c.toCf a → G a = none) ∧ StO c.toCf H ds ∧ Reps c.toCf G vs as ∧ vs.length = n ∧
  Post c E (if Γ.fr f then .fr else .rep) G H (cf f as ds) Q
/-- of an __init__ -/
def spN (c : Cg) (cf : Nat → List D → DS → Out D) (f k n : Nat) : Sp := fun vs H Q E => ∃ G H0 x dx ws as ds, vs = V.ref x :: ws ∧ H0 x = none ∧ H0 dx = none ∧ dx ≠ x ∧ H = upd (upd H0 dx (.own x)) x (.ins (c.cl k) dx []) ∧
  On G H0 ∧ (∀ a, inT c.toCf a → G a = none) ∧ StO c.toCf H0 ds ∧ Reps c.toCf G ws as ∧ vs.length = n ∧ Post c E .rep G H0 (cf f as ds) (fun v H' => v = .ref x → Q .non H')
structure GX (Γ : Gm) (c : Cg) (cf : Nat → List D → DS → Out D) (ar : Nat → Nat) (k : Nat) (P : Program) (w : World) (K : PySem.W.Frag) (mg : Str → Option Value) (base : Heap) : Prop where
  arn : ∀ f as ds, as.length ≠ ar f → cf f as ds = .no
  fn : ∀ f x, Γ.fn f = some x → ∃ a fd ps, mg x = some (.ref a) ∧ PySem.W.keepIn K (.ref a) = true ∧ Binds K fd ps [] ∧ ps.length = ar f ∧ FnOk P w K mg base (L2.CX P w) (k + 1) a fd ps (spF Γ c cf f (ar f))
  mt : ∀ f C m, Γ.mt f = some (C, m) → ∃ a fd ps, (Γ.cls C).isSome = true ∧ Meth K (c.cl C) m a ∧ Binds K fd ps [] ∧ ps.length = ar f ∧ FnOk P w K mg base (L2.CX P w) (k + 1) a fd ps (spF Γ c cf f (ar f))
  nw : ∀ f C, Γ.nw f = some C → ∃ k0 a fd ps, k0 + 1 ≤ k + 1 ∧ Mk K (c.cl C) a ∧ Binds K fd ps [] ∧ ps.length = ar f + 1 ∧ FnOk P w K mg base (L2.CX P w) k0 a fd ps (spN c cf f C (ar f + 1))
  cls : ∀ C x, Γ.cls C = some x → mg x = some (.ref (c.cl C)) ∧ ClsOk Γ c.toCf K C
  free : ∀ x, Γ.free.contains x = true → mg x = none
  gs : ∀ x z, Γ.gs.contains (x, z) = true → ∃ t, mg x = some (.str z t)
structure CxOk (Γ : Gm) (c : Cg) (cf : Nat → List D → DS → Out D) (ar : Nat → Nat) (k : Nat) (N : List Str) (sc : Scope) (E0 : XK) (X : Cx) : Prop where
  hN : X.N = N
  hsc : X.env.scope = sc
  nd : N.Nodup
  calm : X.calm = true
  room : Room (k + 1) X.A
  g : GX Γ c cf ar k X.prog X.w X.K X.mg X.base
  pass : Passes (L2.CX X.prog X.w) X E0

/-! ### small things of the text -/
theorem star_cons {e : PySem.Expr} {es : List PySem.Expr} {env : PySem.Env} (h : noStar e = true) : starEach (e :: es) env = (false, eval e env) :: starEach es env := by
  cases e <;> first | rfl | (simp [noStar] at h)
theorem star_plain {pos : Pos} {env : PySem.Env} : ∀ {es : List PySem.Expr}, (∀ e ∈ es, noStar e = true) → (backTo pos (starEach es env)).any (·.1) = false
  | [], _ => rfl
  | e :: es, h => by
    rw [star_cons (h e List.mem_cons_self)]
    have ih := star_plain (pos := pos) (env := env) (es := es) fun x hx => h x (List.mem_cons_of_mem _ hx)
    unfold backTo at ih ⊢
    rw [List.map_cons, List.any_cons, ih]
    rfl
theorem star_all {pos : Pos} {env : PySem.Env} : ∀ {es : List PySem.Expr}, (∀ e ∈ es, noStar e = true) → (backTo pos (starEach es env)).all (fun x => !x.1) = true
  | [], _ => rfl
  | e :: es, h => by
    rw [star_cons (h e List.mem_cons_self)]
    have ih := star_all (pos := pos) (env := env) (es := es) fun x hx => h x (List.mem_cons_of_mem _ hx)
    unfold backTo at ih ⊢
    rw [List.map_cons, List.all_cons, ih]
    rfl
theorem chks_star_ {Γ : Gm} {N : List Str} {sc : Scope} {all : Bool} : ∀ {r : Es} {xs : List PySem.Expr}, chks Γ N sc all r xs = true → ∀ e ∈ xs, noStar e = true
  | .nil, [], _, e, h => by simp at h
  | .nil, _ :: _, h, _, _ => by simp [chks] at h
  | .cons _ _, [], h, _, _ => by simp [chks] at h
  | .cons a r, x :: xs, h, e, he => by
    simp only [chks, Bool.and_eq_true] at h
    (rcases List.mem_cons.mp he with rfl | he)
    · exact h.1.1.2
    · exact chks_star_ h.2 e he
theorem base_of {o : PySem.Expr} {m : Str} {env : PySem.Env} (h : notCall0 o = true) : attributeBase o m env (eval o env) = eval o env := by
  unfold attributeBase
  split
  · simp [notCall0] at h
  · rfl
theorem plainIx_of {e : PySem.Expr} (h : notSl e = true) : PlainIx e := fun o i => by
  cases e <;> first | rfl | (simp [notSl] at h)
theorem true_plain {e : PySem.Expr} {env : PySem.Env} (h1 : ∀ x p, e ≠ .UnaryOp .Not x p) (h2 : ∀ o xs p, e ≠ .BoolOp o xs p) (h3 : ∀ a b d p, e ≠ .IfExp a b d p) (h4 : ∀ a b d p, e ≠ .Compare a b d p) :
    ∀ whole, PySem.isTrue e env whole = (do let v ← whole; standAt e.pos; holding [v] (truthy v)) := fun whole => by
  unfold PySem.isTrue
  split
  · exact absurd rfl (h1 _ _)
  · exact absurd rfl (h2 _ _ _)
  · exact absurd rfl (h3 _ _ _ _)
  · exact absurd rfl (h4 _ _ _ _)
  · rfl
/-! ### lists of results -/
inductive RdS (c : Cf) (G H : Hp) : List V → List D → Prop
  | nil : RdS c G H [] []
  | cons {v : V} {vs : List V} {d : D} {ds : List D} (h : RO c .rd H G H v d) (r : RdS c G H vs ds) : RdS c G H (v :: vs) (d :: ds)
theorem RdS.len {c : Cf} {G H : Hp} : ∀ {vs : List V} {ds : List D}, RdS c G H vs ds → vs.length = ds.length
  | _, _, .nil => rfl
  | _, _, .cons _ r => (by simp [r.len])
theorem ro_at {c : Cf} {H0 H1 G H : Hp} {v : V} {d : D} (r : RO c .rd H0 G H v d) : RO c .rd H1 G H v d := r
def RA (c : Cf) (all : Bool) : Hp → Hp → Hp → List V → List D → Prop := fun _ G H vs ds => if all = true then Reps c G vs ds else RdS c G H vs ds
theorem mono_ra {c : Cf} (all : Bool) : MonoR (RA c all) := fun _ _ _ _ _ _ _ r => r
def tA (c : Cg) (E0 : XK) (all : Bool) (ρ : Env) (o : DS → Out (List D)) : TA := fun σ H Q => ∃ G ds, EI c.toCf G σ ρ H ds ∧ PostG c E0 (RA c.toCf all) G H (o ds) Q
theorem pa_imp {X : Cx} {es : List PySem.Expr} {t t' : TA} (h : PA X es t) (hi : ∀ σ H Q, t' σ H Q → t σ H Q) : PA X es t' := ⟨fun pos pins s σ H Q I q => h.run pos pins s σ H Q I (hi σ H Q q)⟩
section
variable {Γ : Gm} {c : Cg} {cf : Nat → List D → DS → Out D} {E0 : XK} {X : Cx} {ρ : Env}
theorem pa_nil' {all : Bool} : PA X [] (tA c E0 all ρ (evs Γ cf .nil ρ)) := pa_imp pa_nil fun σ H Q h => by
  obtain ⟨G, ds, e, h⟩ := h
  refine h G H [] e.on (Stp.refl _ _ _) e.st ?_
  show if all = true then Reps _ _ _ _ else RdS _ _ _ _ _
  cases all with
  | true => exact .nil
  | false => exact .nil
theorem pa_cons' {all : Bool} {e : E} {r : Es} {x : PySem.Expr} {xs : List PySem.Expr} (hx : PE X x (tE c E0 (if all then .rep else .rd) ρ (ev Γ cf e ρ))) (hr : PA X xs (tA c E0 all ρ (evs Γ cf r ρ))) (hs : noStar x = true) :
    PA X (x :: xs) (tA c E0 all ρ (evs Γ cf (.cons e r) ρ)) := pa_imp (pa_cons hx hr (star_cons hs)) fun σ H Q h => by
  obtain ⟨G, ds, e0, h⟩ := h
  simp only [evs] at h
  refine ⟨G, ds, e0, ?_⟩
  refine postG_seq (mono_ra all) e0 h fun G1 H1 y d ds1 e1 s1 r1 p1 => ?_
  refine ⟨G1, ds1, e1, ?_⟩
  refine postG_seq (mono_ra all) e1 p1 fun G2 H2 ys es ds2 e2 s2 r2 p2 => ?_
  refine p2 G2 H2 _ e2.on (Stp.refl _ _ _) e2.st ?_
  cases all with
  | true => exact .cons (Rep.mono s2.ex r1) r2
  | false => exact .cons (RO.keep r1 s2) r2
theorem RdS.of_reps {c : Cf} {G H : Hp} : ∀ {vs : List V} {ds : List D}, Reps c G vs ds → RdS c G H vs ds
  | _, _, .nil => .nil
  | _, _, .cons h r => .cons (.inl h) (RdS.of_reps r)
theorem tA_rd {all : Bool} {o : DS → Out (List D)} {σ : L2.St} {H : Hp} {Q : List V → Hp → Prop} (h : tA c E0 false ρ o σ H Q) : tA c E0 all ρ o σ H Q := by
  obtain ⟨G, ds, e0, h⟩ := h
  refine ⟨G, ds, e0, ?_⟩
  cases q : o ds with
  | no => rw [q] at h; exact h
  | er n d dz => rw [q] at h; exact h
  | ok d dz =>
    rw [q] at h
    intro G' H' v n s t r
    refine h G' H' v n s t ?_
    cases all with
    | true => exact RdS.of_reps r
    | false => exact r
end
end IR
end
section
set_option Elab.async false
set_option linter.all false
set_option maxRecDepth 100000
set_option maxHeartbeats 4100000
namespace IR
open L2 PySem PySem.Spec PyProof.Rows

/-- an expression and its small form -/
structure SE (c : Cg) (E0 : XK) (X : Cx) (x : PySem.Expr) (m : Md) (ρ : Env) (o : DS → Out D) : Prop where
  pe : PE X x (tE c E0 m ρ o)
  pt : notIf x = true → PT X x (tT c E0 ρ o)
  pw : ∀ op vs p, x = .BoolOp op vs p → PW X x (tT c E0 ρ o)
section
variable {Γ : Gm} {c : Cg} {cf : Nat → List D → DS → Out D} {ar : Nat → Nat} {k : Nat} {N : List Str} {sc : Scope} {E0 : XK} {X : Cx} {ρ : Env} {m : Md} {o o2 o3 : DS → Out D} {x y z : PySem.Expr} {pos : Pos}
/-- what a test asks, of the value -/
theorem tT_val {σ : L2.St} {H : Hp} {Q : Bool → Hp → Prop} (h : tT c E0 ρ o σ H Q) : tE c E0 m ρ o σ H (fun v H' => ∃ b, v = .bl b ∧ Q b H') := by
  obtain ⟨G, ds, e, h⟩ := h
  refine ⟨G, ds, e, ?_⟩
  replace h : Post c E0 .rd G H ((o ds).bind boolO) (fun x H' => ∃ b, x = .bl b ∧ Q b H') := h
  cases q : o ds with
  | no => rw [q] at h; exact h
  | er n d dz => rw [q] at h; exact h
  | ok d dz =>
    rw [q] at h
    have h : Post c E0 .rd G H (boolO d dz) (fun v H' => ∃ b, v = .bl b ∧ Q b H') := h
    intro G' H' v n s t r
    cases d with
    | bl b => exact h G' H' v n s t r.rd
    | _ => exact h.elim
theorem pt_plain (h : PE X x (tE c E0 m ρ o)) (hp : ∀ whole, PySem.isTrue x X.env whole = (do let v ← whole; standAt x.pos; holding [v] (truthy v))) : PT X x (tT c E0 ρ o) :=
  pt_imp (pt_val h hp) fun σ H Q q => tT_val q
theorem SE.plain (h : PE X x (tE c E0 m ρ o)) (h1 : ∀ a p, x ≠ .UnaryOp .Not a p) (h2 : ∀ o xs p, x ≠ .BoolOp o xs p) (h4 : ∀ a b d p, x ≠ .Compare a b d p) : SE c E0 X x m ρ o :=
  ⟨h, fun hi => pt_plain h (true_plain h1 h2 (fun a b d p e => by rw [e] at hi; cases hi) h4), fun op vs p e => absurd e (h2 op vs p)⟩
/-- a comparison: by the value's rule -/
theorem SE.cmpr {op : CmpOp} {r : R2} {ta tb : TE} (ho : OpR X (compareOp op) r) (ha : PE X x ta) (hb : PE X y tb) (hm : behindInMarks op y = false) (h : ∀ σ H Q, tE c E0 m ρ o σ H Q → tOp r ta tb σ H Q) : SE c E0 X (.Compare x [op] [y] pos) m ρ o :=
  ⟨pe_imp (pe_cmpR ho ha hb hm) h, fun _ => pt_imp (pt_cmpR ho ha hb hm) fun σ H Q q => h _ _ _ (tT_val q), fun _ _ _ e => by cases e⟩
theorem ro_rep_rd {c : Cf} {H0 G H : Hp} {v : V} {d : D} (r : Rep c G v d) : RO c .rd H0 G H v d := .inl r

theorem s_c {d : D} {kc : Const} {j : Nat} (h : chk Γ N sc (.c d) (.Constant kc j pos) = true) : SE c E0 X (.Constant kc j pos) .rep ρ (ev Γ cf (.c d) ρ) := by
  have go : ∀ v, PE X (.Constant kc j pos) (tC v) → (∀ G, Rep c.toCf G v d) → SE c E0 X (.Constant kc j pos) .rep ρ (ev Γ cf (.c d) ρ) := fun v hv hr =>
    SE.plain (pe_imp hv fun σ H Q ⟨G, ds, e, h⟩ => by
      simp only [ev] at h
      exact Post.same h e (hr G)) (fun _ _ e => by cases e) (fun _ _ _ e => by cases e) (fun _ _ _ _ e => by cases e)
  simp only [chk] at h
  cases d <;> cases kc <;> first | (cases h; done) | skip
  · exact go .non pe_non fun G => .non
  · have e := eq_of_beq h
    subst e
    exact go (.bl _) pe_bl fun G => .bl _
  · (have e := of_decide_eq_true h)
    subst e
    exact go (.int _) pe_int fun G => .int _
  · (have e := of_decide_eq_true h)
    subst e
    exact go (.str _) pe_str fun G => .str _
theorem vis_of {x : Str} (hX : CxOk Γ c cf ar k N sc E0 X) (h : visB sc x = true) : Vis X.env.scope x := by
  rw [hX.hsc]
  unfold visB at h
  unfold Vis
  split at h <;> first | (simp_all; done) | cases h
theorem loc_of {x : Str} (hX : CxOk Γ c cf ar k N sc E0 X) (h : locB sc x = true) : L2.Loc X.env.scope x := by
  rw [hX.hsc]
  unfold locB at h
  unfold L2.Loc
  split at h <;> first | (simp_all; done) | cases h
theorem gl_of {x : Str} (hX : CxOk Γ c cf ar k N sc E0 X) (h : glB sc x = true) : Gl X x ∧ (x == ("__debug__" : Str)) = false := by
  unfold glB at h
  have e : X.env.scope = sc := hX.hsc
  unfold Gl PySem.Env.kindOf
  rw [e]
  split at h
  · rename_i q
    exact ⟨q, by simpa using h⟩
  · cases h
theorem var_of {i : Nat} {n : Str} (hX : CxOk Γ c cf ar k N sc E0 X) (h : (decide (N[i]? = some n) && visB sc n && okN n) = true) : PE X (.Name n pos) (tVar i) := by
  simp only [Bool.and_eq_true, okN] at h
  obtain ⟨⟨h1, h2⟩, h3, h4⟩ := h
  exact pe_var (by rw [hX.hN]; exact of_decide_eq_true h1) (vis_of hX h2) (by simpa using h3) (by simpa using h4)
theorem s_v {i : Nat} {n : Str} (hX : CxOk Γ c cf ar k N sc E0 X) (h : chk Γ N sc (.v i) (.Name n pos) = true) : SE c E0 X (.Name n pos) .rep ρ (ev Γ cf (.v i) ρ) := by
  simp only [chk] at h
  refine SE.plain (pe_imp (var_of hX h) fun σ H Q ⟨G, ds, e, p⟩ => ?_) (fun _ _ e => by cases e) (fun _ _ _ e => by cases e) (fun _ _ _ _ e => by cases e)
  simp only [ev] at p
  cases q : ρ[i]? with
  | none => rw [q] at p; exact p.elim
  | some s =>
    rw [q] at p
    cases s with
    | no => exact p.elim
    | own d => exact p.elim
    | sh d =>
      obtain ⟨v, h1, h2⟩ := e.sl i _ q
      exact ⟨v, h1, Post.same p e h2⟩
theorem s_rv {i : Nat} {n : Str} (hX : CxOk Γ c cf ar k N sc E0 X) (h : chk Γ N sc (.rv i) (.Name n pos) = true) : SE c E0 X (.Name n pos) .rd ρ (ev Γ cf (.rv i) ρ) := by
  simp only [chk] at h
  refine SE.plain (pe_imp (var_of hX h) fun σ H Q ⟨G, ds, e, p⟩ => ?_) (fun _ _ e => by cases e) (fun _ _ _ e => by cases e) (fun _ _ _ _ e => by cases e)
  simp only [ev] at p
  cases q : ρ[i]? with
  | none => rw [q] at p; exact p.elim
  | some s =>
    rw [q] at p
    cases s with
    | no => exact p.elim
    | sh d =>
      obtain ⟨v, h1, h2⟩ := e.sl i _ q
      exact ⟨v, h1, Post.same p e h2⟩
    | own d =>
      obtain ⟨a, h1, h2, h3, h4⟩ := e.sl i _ q
      exact ⟨_, h1, p G H _ e.on (Stp.refl _ _ _) e.st (.inr ⟨a, rfl, h2, h3, h4⟩)⟩
theorem s_g {a b n : Str} (hX : CxOk Γ c cf ar k N sc E0 X) (h : chk Γ N sc (.g a b) (.Name n pos) = true) : SE c E0 X (.Name n pos) .rep ρ (ev Γ cf (.g a b) ρ) := by
  simp only [chk, Bool.and_eq_true] at h
  obtain ⟨⟨h1, h2⟩, h3⟩ := h
  have e := of_decide_eq_true h1
  subst e
  obtain ⟨t, ht⟩ := hX.g.gs a b h3
  obtain ⟨g1, g2⟩ := gl_of hX h2
  refine SE.plain (pe_imp (pe_glob (v := .str b) g1 ht ⟨t, rfl⟩ g2) fun σ H Q ⟨G, ds, e, p⟩ => ?_) (fun _ _ e => by cases e) (fun _ _ _ e => by cases e) (fun _ _ _ _ e => by cases e)
  simp only [ev] at p
  exact Post.same p e (.str _)
theorem s_bin {q : Bop} {a b : E} {op : Operator} (hq : opB q op = true) (ha : PE X x (tE c E0 .rd ρ (ev Γ cf a ρ))) (hb : PE X y (tE c E0 .rd ρ (ev Γ cf b ρ))) : SE c E0 X (.BinOp x op y pos) (mdOf Γ (.bin q a b)) ρ (ev Γ cf (.bin q a b) ρ) := by
  obtain ⟨r, h1, h2⟩ := bin_ok X hq
  refine SE.plain (pe_imp (pe_op h1 ha hb) fun σ H Q h => ?_) (fun _ _ e => by cases e) (fun _ _ _ e => by cases e) (fun _ _ _ _ e => by cases e)
  refine bin_wp (m := mdOf Γ (.bin q a b)) (f := fun x y s => .of (binD q x y) s) (R := fun x y H2 => r x y H2 Q) h fun G2 H2 x y dx dy ds2 e2 rx ry p => ?_
  cases hd : binD q dx dy with
  | none => rw [hd] at p; exact p.elim
  | some d =>
    rw [hd] at p
    refine h2 (E0 := E0) e2 rx ry hd ?_
    cases q <;> exact p
theorem post_bool {σ : L2.St} {G H : Hp} {ds : DS} {b : Bool} {Q : VK} (p : Post c E0 m G H (.ok (.bl b) ds) Q) (e : EI c.toCf G σ ρ H ds) : Q (.bl b) H := Post.same p e (.bl b)
theorem s_cmp {q : Cop} {a b : E} {op : CmpOp} (hX : CxOk Γ c cf ar k N sc E0 X) (hq : opC q op = true) (hm : behindInMarks op y = false) (ha : PE X x (tE c E0 .rd ρ (ev Γ cf a ρ))) (hb : PE X y (tE c E0 .rd ρ (ev Γ cf b ρ))) :
    SE c E0 X (.Compare x [op] [y] pos) .rep ρ (ev Γ cf (.cmp q a b) ρ) := by
  obtain ⟨r, h1, h2⟩ := cmp_ok X (by have := hX.room.un; omega) hq
  refine SE.cmpr h1 ha hb hm fun σ H Q h => ?_
  refine bin_wp (m := .rep) (f := fun x y s => .of ((cmpD q x y).map .bl) s) (R := fun x y H2 => r x y H2 Q) h fun G2 H2 x y dx dy ds2 e2 rx ry p => ?_
  cases hd : cmpD q dx dy with
  | none => rw [hd] at p; exact p.elim
  | some d =>
    rw [hd] at p
    exact h2 e2.on rx ry hd (post_bool p e2)
theorem s_ch {q q' : Cop} {a b d : E} {op op' : CmpOp} (hX : CxOk Γ c cf ar k N sc E0 X) (hq : opC q op = true) (hq' : opC q' op' = true) (hm : lastMarks [op, op'] [y, z] = false) (ha : PE X x (tE c E0 .rd ρ (ev Γ cf a ρ))) (hb : PE X y (tE c E0 .rd ρ (ev Γ cf b ρ)))
    (hd : PE X z (tE c E0 .rd ρ (ev Γ cf d ρ))) : SE c E0 X (.Compare x [op, op'] [y, z] pos) .rep ρ (ev Γ cf (.ch q q' a b d) ρ) := by
  obtain ⟨r, h1, h2⟩ := cmp_ok X (by have := hX.room.un; omega) hq
  obtain ⟨r', h1', h2'⟩ := cmp_ok X (by have := hX.room.un; omega) hq'
  have key : ∀ σ H Q, tE c E0 .rep ρ (ev Γ cf (.ch q q' a b d) ρ) σ H Q → tChain r r' (tE c E0 .rd ρ (ev Γ cf a ρ)) (tE c E0 .rd ρ (ev Γ cf b ρ)) (tE c E0 .rd ρ (ev Γ cf d ρ)) σ H Q := fun σ H Q h => by
    refine tE_seq (m := .rep) (f := fun x s => (ev Γ cf b ρ s).bind fun y s => (match cmpD q x y with
      | some true => (ev Γ cf d ρ s).bind fun z s => .of ((cmpD q' y z).map .bl) s
      | some false => .ok (.bl false) s
      | none => .no)) (R := fun x H1 => tE c E0 .rd ρ (ev Γ cf b ρ) σ H1 fun y H2 => r x y H2 fun z H3 => ∃ k, z = .bl k ∧
      (if k = true then tE c E0 .rd ρ (ev Γ cf d ρ) σ H3 fun w' H4 => r' y w' H4 Q else Q (.bl false) H3)) h fun G1 H1 x dx ds1 e1 rx p1 => ?_
    refine ⟨G1, ds1, e1, post_seq (R := fun y H2 => r x y H2 fun z H3 => ∃ k, z = .bl k ∧ (if k = true then tE c E0 .rd ρ (ev Γ cf d ρ) σ H3 fun w' H4 => r' y w' H4 Q else Q (.bl false) H3)) e1 p1 fun G2 H2 y dy ds2 e2 s2 ry p2 => ?_⟩
    cases hc : cmpD q dx dy with
    | none => rw [hc] at p2; exact p2.elim
    | some t =>
      rw [hc] at p2
      refine h2 e2.on (RO.keep rx s2) ry hc ⟨t, rfl, ?_⟩
      cases t with
      | false => exact post_bool p2 e2
      | true =>
        refine ⟨G2, ds2, e2, post_seq (R := fun w' H4 => r' y w' H4 Q) e2 p2 fun G3 H3 w dw ds3 e3 s3 rw3 p3 => ?_⟩
        cases hc' : cmpD q' dy dw with
        | none => rw [hc'] at p3; exact p3.elim
        | some u =>
          rw [hc'] at p3
          exact h2' e3.on (RO.keep ry s3) rw3 hc' (post_bool p3 e3)
  exact ⟨pe_imp (pe_chain h1 h1' ha hb hd hm) key, fun _ => pt_imp (pt_chain h1 h1' ha hb hd hm) fun σ H Q q => key _ _ _ (tT_val q), fun _ _ _ e => by cases e⟩
theorem ro_none {c : Cf} {H0 G H : Hp} {v : V} {d : D} (r : RO c .rd H0 G H v d) : decide (v = V.non) = isNonD d := by
  rcases r with r | ⟨p, rfl, _, _, t⟩
  · cases r <;> simp [isNonD]
  · cases t <;> simp [isNonD]
theorem ro_notn {c : Cf} {H0 G H : Hp} {v : V} {d : D} (r : RO c .rd H0 G H v d) : (!decide (v = V.non)) = !isNonD d := by rw [ro_none r]
theorem s_isN {a : E} {j : Nat} {pos' : Pos} (ha : PE X x (tE c E0 .rd ρ (ev Γ cf a ρ))) : SE c E0 X (.Compare x [.Is] [.Constant .none j pos'] pos) .rep ρ (ev Γ cf (.isN a) ρ) := by
  have key : ∀ σ H Q, tE c E0 .rep ρ (ev Γ cf (.isN a) ρ) σ H Q → tIsN (tE c E0 .rd ρ (ev Γ cf a ρ)) σ H Q := fun σ H Q h => by
    refine tE_seq (m := .rep) (f := fun x s => .ok (.bl (isNonD x)) s) (R := fun x H1 => Q (.bl (decide (x = .non))) H1) h fun G1 H1 x dx ds1 e1 rx p1 => ?_
    rw [ro_none rx]
    exact post_bool p1 e1
  exact ⟨pe_imp (pe_cmp (pc_isN ha) rfl) key, fun _ => pt_imp (pt_cmp (pc_isN ha) rfl) fun σ H Q q => key _ _ _ (tT_val q), fun _ _ _ e => by cases e⟩
theorem s_notN {a : E} {j : Nat} {pos' : Pos} (ha : PE X x (tE c E0 .rd ρ (ev Γ cf a ρ))) : SE c E0 X (.Compare x [.IsNot] [.Constant .none j pos'] pos) .rep ρ (ev Γ cf (.notN a) ρ) := by
  have key : ∀ σ H Q, tE c E0 .rep ρ (ev Γ cf (.notN a) ρ) σ H Q → tNotN (tE c E0 .rd ρ (ev Γ cf a ρ)) σ H Q := fun σ H Q h => by
    refine tE_seq (m := .rep) (f := fun x s => .ok (.bl (!isNonD x)) s) (R := fun x H1 => Q (.bl (!decide (x = .non))) H1) h fun G1 H1 x dx ds1 e1 rx p1 => ?_
    rw [ro_notn rx]
    exact post_bool p1 e1
  exact ⟨pe_imp (pe_cmp (pc_notN ha) rfl) key, fun _ => pt_imp (pt_cmp (pc_notN ha) rfl) fun σ H Q q => key _ _ _ (tT_val q), fun _ _ _ e => by cases e⟩
end
end IR
end
section
set_option Elab.async false
set_option linter.all false
set_option maxRecDepth 100000
set_option maxHeartbeats 4100000
namespace IR
open L2 PySem PySem.Spec PyProof.Rows
section
variable {Γ : Gm} {c : Cg} {cf : Nat → List D → DS → Out D} {ar : Nat → Nat} {k : Nat} {N : List Str} {sc : Scope} {E0 : XK} {X : Cx} {ρ : Env} {m m' : Md} {o o2 o3 : DS → Out D} {x y z : PySem.Expr} {pos : Pos}
/-- a value that is asked for its truth -/
theorem post_onB {σ : L2.St} {G H : Hp} {ds : DS} {f : DS → Bool → Out D} {Q : VK} {R : VK} (e : EI c.toCf G σ ρ H ds) (h : Post c E0 m G H ((o ds).bind fun x s => onB x (f s)) Q)
    (k : ∀ G1 H1 b ds1, EI c.toCf G1 σ ρ H1 ds1 → Stp c.toCf G H G1 H1 → Post c E0 m G1 H1 (f ds1 b) Q → R (.bl b) H1) : Post c E0 m' G H (o ds) R :=
  post_seq (f := fun x s => onB x (f s)) e h fun G1 H1 x d ds1 e1 s1 r1 p1 => by
    cases d with
    | bl b =>
      have ex := ro_bl r1.rd
      subst ex
      exact k G1 H1 b ds1 e1 s1 p1
    | _ => exact p1.elim
/-- the same, of a test -/
theorem tT_onB {σ : L2.St} {G H : Hp} {ds : DS} {f : DS → Bool → Out D} {Q : VK} {R : Bool → Hp → Prop} (e : EI c.toCf G σ ρ H ds) (h : Post c E0 m G H ((o ds).bind fun x s => onB x (f s)) Q)
    (k : ∀ G1 H1 b ds1, EI c.toCf G1 σ ρ H1 ds1 → Stp c.toCf G H G1 H1 → Post c E0 m G1 H1 (f ds1 b) Q → R b H1) : tT c E0 ρ o σ H R := by
  refine ⟨G, ds, e, ?_⟩
  show Post c E0 .rd G H ((o ds).bind boolO) _
  cases q : o ds with
  | no => rw [q] at h; exact h
  | er n d dz => rw [q] at h; exact h
  | ok d dz =>
    rw [q] at h
    cases d with
    | bl b =>
      show Post c E0 .rd G H (.ok (.bl b) dz) _
      intro G1 H1 v n s t r
      exact ⟨b, ro_bl r, k G1 H1 b dz (e.step n s t) s (PostG.shift (mono_ro m) h s t)⟩
    | _ => exact h.elim
theorem bind_assoc {α β γ : Type} (a : Out α) (f : α → DS → Out β) (g : β → DS → Out γ) : (a.bind f).bind g = a.bind fun x s => (f x s).bind g := by cases a <;> rfl
/-- a test within a test -/
theorem tT_bool {σ : L2.St} {H : Hp} {Q : Bool → Hp → Prop} {G : Hp} {ds : DS} (e : EI c.toCf G σ ρ H ds) (h : Post c E0 .rd G H (((o ds).bind boolO).bind boolO) (fun x H' => ∃ b, x = .bl b ∧ Q b H')) : tT c E0 ρ o σ H Q := by
  refine ⟨G, ds, e, ?_⟩
  show Post c E0 .rd G H ((o ds).bind boolO) _
  cases q : o ds with
  | no => rw [q] at h; exact h
  | er n d dz => rw [q] at h; exact h
  | ok d dz =>
    rw [q] at h
    cases d with
    | bl b => exact h
    | _ => exact h.elim
theorem bool_val {σ : L2.St} {H : Hp} {Q : VK} {G : Hp} {ds : DS} (e : EI c.toCf G σ ρ H ds) (h : Post c E0 .rep G H ((o ds).bind boolO) Q) : Post c E0 .rd G H (o ds) Q :=
  post_seq (f := boolO) e h fun G1 H1 x d ds1 e1 s1 r1 p1 => by
    cases d with
    | bl b => rw [ro_bl r1]; exact post_bool p1 e1
    | _ => exact p1.elim
theorem s_and {a b : E} {r : List PySem.Expr} (ha : SE c E0 X x m ρ (ev Γ cf a ρ)) (hi : notIf x = true) (hb : PE X (.BoolOp .And (y :: r) pos) (tE c E0 .rd ρ (ev Γ cf b ρ))) (hw : PW X (.BoolOp .And (y :: r) pos) (tT c E0 ρ (ev Γ cf b ρ))) :
    SE c E0 X (.BoolOp .And (x :: y :: r) pos) .rep ρ (ev Γ cf (.and a b) ρ) := by
  have pw : PW X (.BoolOp .And (x :: y :: r) pos) (tT c E0 ρ (ev Γ cf (.and a b) ρ)) := pw_imp (pw_and (ha.pt hi) hw) fun σ H Q ⟨G, ds, e, h⟩ => by
    simp only [ev] at h
    rw [bind_assoc] at h
    refine tT_onB (m := .rd) (f := fun s t => (if t then (ev Γ cf b ρ s).bind boolO else .ok (.bl false) s).bind boolO) (Q := fun x H' => ∃ b, x = .bl b ∧ Q b H') e (by
      cases q : ev Γ cf a ρ ds with
      | no => rw [q] at h; exact h
      | er n d dz => rw [q] at h; exact h
      | ok d dz =>
        rw [q] at h
        cases d with
        | bl b => exact h
        | _ => exact h.elim) fun G1 H1 t ds1 e1 s1 p1 => ?_
    cases t with
    | true => exact tT_bool e1 p1
    | false =>
      obtain ⟨b', h1, h2⟩ := post_bool (m := .rd) p1 e1
      cases h1
      exact h2
  refine ⟨pe_imp (pe_and ha.pe hb) fun σ H Q ⟨G, ds, e, h⟩ => ?_, fun _ => pw.pt, fun op vs p e => by cases e; exact pw⟩
  simp only [ev] at h
  refine ⟨G, ds, e, post_onB (m := .rep) (f := fun s t => if t then (ev Γ cf b ρ s).bind boolO else .ok (.bl false) s) e h fun G1 H1 t ds1 e1 s1 p1 => ⟨t, rfl, ?_⟩⟩
  cases t with
  | true => exact ⟨G1, ds1, e1, bool_val e1 p1⟩
  | false => exact post_bool p1 e1
theorem s_or {a b : E} {r : List PySem.Expr} (ha : SE c E0 X x m ρ (ev Γ cf a ρ)) (hi : notIf x = true) (hb : PE X (.BoolOp .Or (y :: r) pos) (tE c E0 .rd ρ (ev Γ cf b ρ))) (hw : PW X (.BoolOp .Or (y :: r) pos) (tT c E0 ρ (ev Γ cf b ρ))) :
    SE c E0 X (.BoolOp .Or (x :: y :: r) pos) .rep ρ (ev Γ cf (.or a b) ρ) := by
  have pw : PW X (.BoolOp .Or (x :: y :: r) pos) (tT c E0 ρ (ev Γ cf (.or a b) ρ)) := pw_imp (pw_or (ha.pt hi) hw) fun σ H Q ⟨G, ds, e, h⟩ => by
    simp only [ev] at h
    rw [bind_assoc] at h
    refine tT_onB (m := .rd) (f := fun s t => (if t then .ok (.bl true) s else (ev Γ cf b ρ s).bind boolO).bind boolO) (Q := fun x H' => ∃ b, x = .bl b ∧ Q b H') e (by
      cases q : ev Γ cf a ρ ds with
      | no => rw [q] at h; exact h
      | er n d dz => rw [q] at h; exact h
      | ok d dz =>
        rw [q] at h
        cases d with
        | bl b => exact h
        | _ => exact h.elim) fun G1 H1 t ds1 e1 s1 p1 => ?_
    cases t with
    | false => exact tT_bool e1 p1
    | true =>
      obtain ⟨b', h1, h2⟩ := post_bool (m := .rd) p1 e1
      cases h1
      exact h2
  refine ⟨pe_imp (pe_or ha.pe hb) fun σ H Q ⟨G, ds, e, h⟩ => ?_, fun _ => pw.pt, fun op vs p e => by cases e; exact pw⟩
  simp only [ev] at h
  refine ⟨G, ds, e, post_onB (m := .rep) (f := fun s t => if t then .ok (.bl true) s else (ev Γ cf b ρ s).bind boolO) e h fun G1 H1 t ds1 e1 s1 p1 => ⟨t, rfl, ?_⟩⟩
  cases t with
  | false => exact ⟨G1, ds1, e1, bool_val e1 p1⟩
  | true => exact post_bool p1 e1
theorem s_not {a : E} (ha : SE c E0 X x m ρ (ev Γ cf a ρ)) (hi : notIf x = true) : SE c E0 X (.UnaryOp .Not x pos) .rep ρ (ev Γ cf (.not a) ρ) := by
  refine ⟨pe_imp (pe_not ha.pe) fun σ H Q ⟨G, ds, e, h⟩ => ?_, fun _ => pt_imp (pt_not (ha.pt hi)) fun σ H Q ⟨G, ds, e, h⟩ => ?_, fun _ _ _ e => by cases e⟩
  · simp only [ev] at h
    exact ⟨G, ds, e, post_onB (m := .rep) (f := fun s t => .ok (.bl (!t)) s) e h fun G1 H1 t ds1 e1 s1 p1 => ⟨t, rfl, post_bool p1 e1⟩⟩
  · simp only [ev] at h
    rw [bind_assoc] at h
    refine tT_onB (m := .rd) (f := fun s t => (.ok (.bl (!t)) s)) (Q := fun x H' => ∃ b, x = .bl b ∧ Q b H') e (by
      cases q : ev Γ cf a ρ ds with
      | no => rw [q] at h; exact h
      | er n d dz => rw [q] at h; exact h
      | ok d dz =>
        rw [q] at h
        cases d with
        | bl b => exact h
        | _ => exact h.elim) fun G1 H1 t ds1 e1 s1 p1 => ?_
    obtain ⟨b', h1, h2⟩ := post_bool (m := .rd) p1 e1
    cases h1
    exact h2
theorem s_neg {a : E} (ha : PE X x (tE c E0 .rd ρ (ev Γ cf a ρ))) : SE c E0 X (.UnaryOp .USub x pos) .rep ρ (ev Γ cf (.neg a) ρ) := by
  refine SE.plain (pe_imp (pe_un un_neg ha) fun σ H Q h => ?_) (fun _ _ e => by cases e) (fun _ _ _ e => by cases e) (fun _ _ _ _ e => by cases e)
  refine tE_seq (m := .rep) (f := fun x s => (match x with
      | .int i => .ok (.int (-i)) s
      | _ => .no)) (R := fun x H1 => rU (fun i => .int (-i)) x H1 Q) h fun G1 H1 x dx ds1 e1 rx p1 => ?_
  cases dx with
  | int i => exact ⟨i, ro_int rx, Post.same p1 e1 (.int _)⟩
  | _ => exact p1.elim
theorem s_ife {t a b : E} {u : PySem.Expr} (ht : PT X u (tT c E0 ρ (ev Γ cf t ρ))) (ha : PE X x (tE c E0 .rep ρ (ev Γ cf a ρ))) (hb : PE X y (tE c E0 .rep ρ (ev Γ cf b ρ))) :
    SE c E0 X (.IfExp u x y pos) .rep ρ (ev Γ cf (.ife t a b) ρ) := by
  refine ⟨pe_imp (pe_ifExp ht ha hb) fun σ H Q ⟨G, ds, e, h⟩ => ?_, fun q => (by cases q), fun _ _ _ e => (by cases e)⟩
  simp only [ev] at h
  refine tT_onB (m := .rep) (f := fun s t => if t then ev Γ cf a ρ s else ev Γ cf b ρ s) e h fun G1 H1 t ds1 e1 s1 p1 => ?_
  cases t with
  | true => exact ⟨G1, ds1, e1, p1⟩
  | false => exact ⟨G1, ds1, e1, p1⟩
theorem tA_seq {σ : L2.St} {H : Hp} {Q : VK} {all : Bool} {oa : DS → Out (List D)} {f : List D → DS → Out D} {R : List V → Hp → Prop} (h : tE c E0 m ρ (fun ds => (oa ds).bind f) σ H Q)
    (k : ∀ G1 H1 vs as ds1, EI c.toCf G1 σ ρ H1 ds1 → RA c.toCf all H G1 H1 vs as → Post c E0 m G1 H1 (f as ds1) Q → R vs H1) : tA c E0 all ρ oa σ H R := by
  obtain ⟨G, ds, e, h⟩ := h
  exact ⟨G, ds, e, postG_seq (mono_ro m) e h fun G1 H1 vs as ds1 e1 s1 r1 p1 => k G1 H1 vs as ds1 e1 r1 p1⟩
theorem s_tup {es : Es} {xs : List PySem.Expr} {j : Nat} (ha : PA X xs (tA c E0 true ρ (evs Γ cf es ρ))) : SE c E0 X (.Tuple xs j pos) .rep ρ (ev Γ cf (.tup es) ρ) := by
  refine SE.plain (pe_imp (pe_tup ha) fun σ H Q h => ?_) (fun _ _ e => by cases e) (fun _ _ _ e => by cases e) (fun _ _ _ _ e => by cases e)
  refine tA_seq (m := .rep) (f := fun ds s => if ds.length ≤ lim then .ok (.tup ds) s else .no) (R := fun xs H1 => xs.length ≤ sizeLine ∧ ∀ p, H1 p = none → Q (.ref p) (upd H1 p (.tup xs))) h fun G1 H1 vs as ds1 e1 r1 p1 => ?_
  have r1 : Reps c.toCf G1 vs as := r1
  by_cases hl : as.length ≤ lim
  · rw [if_pos hl] at p1
    refine ⟨by rw [r1.len, ← lim_eq]; exact hl, fun p hp => p1.newK e1 hp ?_⟩
    exact .tup upd_same (r1.mono (Sub.upd (e1.on.free hp)))
  · rw [if_neg hl] at p1; exact p1.elim
theorem s_lst {es : Es} {xs : List PySem.Expr} (ha : PA X xs (tA c E0 true ρ (evs Γ cf es ρ))) : SE c E0 X (.List xs pos) .fr ρ (ev Γ cf (.lst es) ρ) := by
  refine SE.plain (pe_imp (pe_lst ha) fun σ H Q h => ?_) (fun _ _ e => by cases e) (fun _ _ _ e => by cases e) (fun _ _ _ _ e => by cases e)
  refine tA_seq (m := .fr) (f := fun ds s => if ds.length ≤ lim then .ok (.lst ds) s else .no) (R := fun xs H1 => xs.length ≤ sizeLine ∧ ∀ p, H1 p = none → Q (.ref p) (upd H1 p (.lst xs))) h fun G1 H1 vs as ds1 e1 r1 p1 => ?_
  have r1 : Reps c.toCf G1 vs as := r1
  by_cases hl : as.length ≤ lim
  · rw [if_pos hl] at p1
    exact ⟨by rw [r1.len, ← lim_eq]; exact hl, fun p hp => p1.new e1 hp (.lst upd_same r1)⟩
  · rw [if_neg hl] at p1; exact p1.elim
theorem s_dnew {t : Bool} : SE c E0 X (.Dict [] [] pos) .fr ρ (ev Γ cf (.dnew t) ρ) := by
  cases t with
  | false =>
    refine SE.plain (pe_imp pe_dnewK fun σ H Q ⟨G, ds, e, h⟩ => ?_) (fun _ _ e => by cases e) (fun _ _ _ e => by cases e) (fun _ _ _ _ e => by cases e)
    simp only [ev] at h
    exact fun p hp => Post.new h e hp (.dk upd_same .nil)
  | true =>
    refine SE.plain (pe_imp pe_dnewT fun σ H Q ⟨G, ds, e, h⟩ => ?_) (fun _ _ e => by cases e) (fun _ _ _ e => by cases e) (fun _ _ _ _ e => by cases e)
    simp only [ev] at h
    exact fun p hp => Post.new h e hp (.dt upd_same .nil)
theorem s_sub {a i : E} (hX : CxOk Γ c cf ar k N sc E0 X) (ha : PE X x (tE c E0 .rd ρ (ev Γ cf a ρ))) (hi : PE X y (tE c E0 .rd ρ (ev Γ cf i ρ))) (hs : notSl y = true) : SE c E0 X (.Subscript x y pos) .rep ρ (ev Γ cf (.sub a i) ρ) := by
  obtain ⟨r, h1, h2⟩ := ix_ok X (by have := hX.room.un; omega)
  refine SE.plain (pe_imp (pe_ix h1 ha hi (plainIx_of hs)) fun σ H Q h => ?_) (fun _ _ e => by cases e) (fun _ _ _ e => by cases e) (fun _ _ _ _ e => by cases e)
  refine bin_wp (m := .rep) (f := fun x y s => .of (subD x y) s) (R := fun x y H2 => r x y H2 Q) h fun G2 H2 x y dx dy ds2 e2 rx ry p => ?_
  cases hd : subD dx dy with
  | none => rw [hd] at p; exact p.elim
  | some d =>
    rw [hd] at p
    exact h2 e2 rx ry hd p
def tO (c : Cg) (E0 : XK) (ρ : Env) (o : DS → Out (Option Int)) : TO := fun σ H Q => ∃ G ds, EI c.toCf G σ ρ H ds ∧ PostG c E0 (fun _ _ _ (v : Option Int) d => v = d) G H (o ds) Q
theorem po_imp {e : Option PySem.Expr} {t t' : TO} (h : PO X e t) (hi : ∀ σ H Q, t' σ H Q → t σ H Q) : PO X e t' := ⟨fun pins s σ H Q I q => h.run pins s σ H Q I (hi σ H Q q)⟩
theorem po_none' : PO X none (tO c E0 ρ fun s => .ok none s) := po_imp po_none fun σ H Q ⟨G, ds, e, h⟩ => h G H none e.on (Stp.refl _ _ _) e.st rfl
theorem mono_eq : MonoR (fun (_ _ _ : Hp) (v : Option Int) (d : Option Int) => v = d) := fun _ _ _ _ _ _ _ r => r
theorem po_some' {a : E} (ha : PE X x (tE c E0 .rd ρ (ev Γ cf a ρ))) : PO X (some x) (tO c E0 ρ fun s => (ev Γ cf a ρ s).bind intO) := po_imp (po_some ha) fun σ H Q ⟨G, ds, e, h⟩ => by
  refine ⟨G, ds, e, postG_seq mono_eq e h fun G1 H1 v d ds1 e1 s1 r1 p1 => ?_⟩
  cases d with
  | int i => exact ⟨i, ro_int r1, p1 G1 H1 _ e1.on (Stp.refl _ _ _) e1.st rfl⟩
  | _ => exact p1.elim
theorem s_sl {a : E} {ol oh : DS → Out (Option Int)} {l h : Option PySem.Expr} {p2 : Pos} (ha : PE X x (tE c E0 .rd ρ (ev Γ cf a ρ))) (hl : PO X l (tO c E0 ρ ol)) (hh : PO X h (tO c E0 ρ oh)) :
    SE c E0 X (.Subscript x (.Slice l h none p2) pos) .fr ρ (fun s => (ev Γ cf a ρ s).bind fun x s => (ol s).bind fun l s => (oh s).bind fun h s => .of (slD x l h) s) := by
  refine SE.plain (pe_imp (pe_slice (sl_list.or sl_tupA) ha hl hh) fun σ H Q q => ?_) (fun _ _ e => by cases e) (fun _ _ _ e => by cases e) (fun _ _ _ _ e => by cases e)
  refine tE_seq (m := .fr) (f := fun x s => (ol s).bind fun l s => (oh s).bind fun h s => .of (slD x l h) s) q fun G1 H1 v d ds1 e1 r1 p1 => ?_
  refine ⟨G1, ds1, e1, postG_seq (mono_ro .fr) e1 p1 fun G2 H2 lo lo' ds2 e2 s2 r2 p2 => ?_⟩
  refine ⟨G2, ds2, e2, postG_seq (mono_ro .fr) e2 p2 fun G3 H3 hi hi' ds3 e3 s3 r3 p3 => ?_⟩
  have r1' := (RO.keep r1 s2).keep s3
  subst r2 r3
  unfold slD at p3
  cases d with
  | lst ds =>
    obtain ⟨b, xs, rfl, h1, h2⟩ := ro_lst e3.on r1'
    exact .inl ⟨b, xs, rfl, SqL.of h1, fun p hp => Post.new p3 e3 hp (.lst upd_same h2.cut)⟩
  | tup ds =>
    obtain ⟨b, xs, rfl, h1, g1, h2⟩ := ro_tup e3.on r1'
    refine .inr ⟨b, xs, rfl, SqT.of h1, fun hw => ?_, fun hw p hp => ?_⟩
    · have ec : cutL ds lo hi = ds := by
        unfold cutL
        rw [← h2.len, hw.1, hw.2, List.drop_zero, Nat.sub_zero, h2.len, List.take_length]
      have p4 : Post c E0 .fr G3 H3 (.ok (.tup (cutL ds lo hi)) ds3) Q := p3
      rw [ec] at p4
      exact Post.same p4 e3 (.tup g1 h2)
    · refine p3 _ _ _ ((e3.on.alloc hp).know upd_same) ((Stp.alloc hp).know (e3.on.free hp) hp) (e3.st.alloc hp) (.inl ⟨?_, rfl⟩)
      exact .tup upd_same (h2.cut.mono (Sub.upd (e3.on.free hp)))
  | _ => exact p3.elim
end
end IR
end
section
set_option Elab.async false
set_option linter.all false
set_option maxRecDepth 100000
set_option maxHeartbeats 4100000
namespace IR
open L2 PySem PySem.Spec PyProof.Rows
section
variable {Γ : Gm} {c : Cg} {cf : Nat → List D → DS → Out D} {ar : Nat → Nat} {k : Nat} {N : List Str} {sc : Scope} {E0 : XK} {X : Cx} {ρ : Env} {m m' : Md} {o o2 o3 : DS → Out D} {x y z : PySem.Expr} {pos : Pos}
/-! ### calls of defs -/
/-- things to be read go to the known part, for a call whose answer is flat -/
theorem reps_of_rds {c : Cf} {H : Hp} : ∀ {vs : List V} {as : List D} {G : Hp}, RdS c G H vs as → On G H → (∀ a, inT c a → G a = none) → ∃ G', Sub G G' ∧ On G' H ∧ (∀ a, inT c a → G' a = none) ∧ Reps c G' vs as
  | _, _, G, .nil, n, t => ⟨G, Sub.refl G, n, t, .nil⟩
  | _, _, G, .cons h r, n, t => by
    obtain ⟨G1, s1, n1, t1, r1⟩ := reps_of_rds r n t
    rcases h with h | ⟨p, rfl, h2, h3, h4⟩
    · exact ⟨G1, s1, n1, t1, .cons (h.mono s1) r1⟩
    · by_cases g : G1 p = none
      · obtain ⟨u, hu, ru⟩ := (h4.mono s1 rfl : Top c G1 H p _).know g
        refine ⟨_, s1.trans (Sub.upd g), n1.know hu, fun a ha => ?_, .cons ru (r1.mono (Sub.upd g))⟩
        rw [upd_ne (fun z => h3 (by rw [← z]; exact ha))]
        exact t1 a ha
      · cases e : G1 p with
        | none => exact absurd e g
        | some u =>
          refine ⟨G1, s1, n1, t1, .cons ?_ r1⟩
          cases h4 with
          | lst q r =>
            have hu : H p = some u := by
              rcases n1 p u e with z | ⟨_, b, z⟩
              · exact z
              · rw [q] at z; cases z
            rw [q] at hu; cases hu
            exact .lst e (r.mono s1)
          | dk q r =>
            have hu : H p = some u := by
              rcases n1 p u e with z | ⟨_, b, z⟩
              · exact z
              · rw [q] at z; cases z
            rw [q] at hu; cases hu
            exact .dk e (r.mono s1)
          | dt q r =>
            have hu : H p = some u := by
              rcases n1 p u e with z | ⟨_, b, z⟩
              · exact z
              · rw [q] at z; cases z
            rw [q] at hu; cases hu
            exact .dt e (r.mono s1)
theorem flat_rep {c : Cf} {G G' : Hp} {v : V} {d : D} (h : flatD d = true) (r : Rep c G v d) : Rep c G' v d := by
  cases r <;> first | (simp [flatD] at h; done) | constructor
theorem ro_flat {c : Cf} {H0 G G' H : Hp} {v : V} {d : D} (h : flatD d = true) (r : RO c .rd H0 G H v d) : Rep c G' v d := by
  rcases r with r | ⟨p, rfl, _, _, t⟩
  · exact flat_rep h r
  · cases t <;> (simp [flatD] at h)
theorem tE_mono {σ : L2.St} {H : Hp} {Q Q' : VK} (hq : ∀ v H', Q v H' → Q' v H') (h : tE c E0 m ρ o σ H Q) : tE c E0 m ρ o σ H Q' := by
  obtain ⟨G, ds, e, h⟩ := h
  refine ⟨G, ds, e, ?_⟩
  cases q : o ds with
  | no => rw [q] at h; exact h
  | er n d dz => rw [q] at h; exact h
  | ok d dz => rw [q] at h; exact fun G' H' v n s t r => hq _ _ (h G' H' v n s t r)
theorem tA_nil {all : Bool} {σ : L2.St} {H : Hp} {Q : List V → Hp → Prop} (h : tA c E0 all ρ (evs Γ cf .nil ρ) σ H Q) : Q [] H := by
  obtain ⟨G, ds, e, q⟩ := h
  exact q G H [] e.on (Stp.refl _ _ _) e.st (by
    cases all with
    | true => exact Reps.nil
    | false => exact RdS.nil)
/-- what a call wants -/
theorem call_wp {f : Nat} {all : Bool} {es : Es} (ha' : all = !Γ.fl f) (hn : ∀ as ds, as.length ≠ ar f → cf f as ds = .no) {σ : L2.St} {H : Hp} {Q : VK} (h : tE c E0 (if Γ.fr f then .fr else .rep) ρ (ev Γ cf (.call f es) ρ) σ H Q) :
    tCall (spF Γ c cf f (ar f)) [] E0 (tA c E0 all ρ (evs Γ cf es ρ)) σ H Q := by
  refine tA_seq (m := if Γ.fr f then .fr else .rep) (f := fun ds s => if Γ.fl f then flatO (cf f ds s) else cf f ds s) (R := fun vs H1 => spF Γ c cf f (ar f) (vs ++ []) H1 Q E0) h fun G1 H1 vs as ds1 e1 r1 p1 => ?_
  rw [List.append_nil]
  have len : as.length = ar f := by
    by_cases q : as.length = ar f
    · exact q
    · have p1 : Post c E0 (if Γ.fr f then .fr else .rep) G1 H1 (if Γ.fl f then flatO (cf f as ds1) else cf f as ds1) Q := p1
      rw [hn as ds1 q] at p1
      cases hfl : Γ.fl f <;> (rw [hfl] at p1; exact p1.elim)
  have p1 : Post c E0 (if Γ.fr f then .fr else .rep) G1 H1 (if Γ.fl f then flatO (cf f as ds1) else cf f as ds1) Q := p1
  cases hfl : Γ.fl f with
  | false =>
    rw [hfl] at ha' p1
    subst ha'
    have r1 : Reps c.toCf G1 vs as := r1
    exact ⟨G1, as, ds1, e1.on, e1.tn, e1.st, r1, by rw [r1.len]; exact len, p1⟩
  | true =>
    rw [hfl] at ha' p1
    subst ha'
    have r1 : RdS c.toCf G1 H1 vs as := r1
    obtain ⟨G2, s2, n2, t2, r2⟩ := reps_of_rds r1 e1.on e1.tn
    refine ⟨G2, as, ds1, n2, t2, e1.st, r2, by rw [r2.len]; exact len, ?_⟩
    have p1 : Post c E0 (if Γ.fr f then .fr else .rep) G1 H1 (flatO (cf f as ds1)) Q := p1
    cases q : cf f as ds1 with
    | no => rw [q] at p1; exact p1
    | er n d dz => rw [q] at p1; exact p1.elim
    | ok d dz =>
      rw [q] at p1
      have p1 : Post c E0 (if Γ.fr f then .fr else .rep) G1 H1 (if flatD d then .ok d dz else .no) Q := p1
      cases hd : flatD d with
      | false => rw [hd] at p1; exact p1.elim
      | true =>
        rw [hd] at p1
        intro G' H' v n' s' t' r'
        refine p1 G1 H' v (fun a u ha => ?_) ⟨Sub.refl _, s'.kp, fun _ _ z => z⟩ t' ?_
        · have q : H' a = H1 a := s'.kp a (e1.on.there ha) fun z => by rw [e1.tn a z] at ha; cases ha
          rw [q]
          exact e1.on a u ha
        · have rr := ro_flat (G' := G1) hd r'.rd
          cases Γ.fr f with
          | true => exact .inl ⟨rr, by cases d <;> first | rfl | (simp [flatD] at hd)⟩
          | false => exact rr
theorem md_call {f : Nat} {es : Es} : mdOf Γ (.call f es) = (if Γ.fr f then .fr else .rep) := rfl
theorem md_mth {f : Nat} {o : E} {es : Es} : mdOf Γ (.mth f o es) = (if Γ.fr f then .fr else .rep) := rfl
theorem s_call {f : Nat} {es : Es} {n : Str} {p : Pos} {xs : List PySem.Expr} (hX : CxOk Γ c cf ar k N sc E0 X) (h : chk Γ N sc (.call f es) (.Call (.Name n p) xs [] pos) = true) (ha : PA X xs (tA c E0 (!Γ.fl f) ρ (evs Γ cf es ρ))) :
    SE c E0 X (.Call (.Name n p) xs [] pos) (mdOf Γ (.call f es)) ρ (ev Γ cf (.call f es) ρ) := by
  simp only [chk, Bool.and_eq_true] at h
  obtain ⟨⟨h1, h2⟩, h3⟩ := h
  obtain ⟨g1, g2⟩ := gl_of hX h2
  obtain ⟨a, fd, ps, f1, f2, f3, f4, f5⟩ := hX.g.fn f n (of_decide_eq_true h1)
  have st := chks_star_ h3
  refine SE.plain ?_ (fun _ _ e => by cases e) (fun _ _ _ e => by cases e) (fun _ _ _ _ e => by cases e)
  cases xs with
  | nil =>
    refine pe_imp (pe_call0 f5 hX.room g1 f1 f2 f3 .nil hX.pass g2) fun σ H Q h => ?_
    · have q := call_wp (all := !Γ.fl f) rfl (hX.g.arn f) h
      cases es with
      | cons _ _ => simp [chks] at h3
      | nil =>
        exact tA_nil q
  | cons y ys =>
    exact pe_imp (pe_call f5 hX.room g1 f1 f2 f3 .nil hX.pass ha g2 (star_cons (st y List.mem_cons_self)) (star_plain fun e he => st e (List.mem_cons_of_mem _ he))) fun σ H Q h => call_wp (all := !Γ.fl f) rfl (hX.g.arn f) h
/-- a method's call, as it is reckoned -/
theorem meth_ht {env : PySem.Env} {o : PySem.Expr} {m : Str} {ap : Pos} {es : List PySem.Expr} (hb : notCall0 o = true) (hs : ∀ e ∈ es, noStar e = true) (hl : es.length < 20) (hp : (ap.endLine == pos.line) = true) :
    eval (.Call (.Attribute o m ap) es [] pos) env = (do
      let ov ← eval o env
      standAt ap.atName
      let (f, first) ← holding [ov] (getMethod ov m (do return (← importBound o env).getD true))
      callWith pos f first (backTo pos (starEach es env)) (backToKw pos (keywordEach [] env))) := by
  have few : methodCallForm (es.length + ([] : List Keyword).length) (backTo pos (starEach es env)) (backToKw pos (keywordEach [] env)) = true := by
    unfold methodCallForm
    rw [star_all hs]
    have : decide (es.length + ([] : List Keyword).length + (if (backToKw pos (keywordEach [] env)).isEmpty then 0 else 1) < 30) = true := by
      apply decide_eq_true
      show es.length + 0 + (if (backToKw pos (keywordEach [] env)).isEmpty then 0 else 1) < 30
      split <;> omega
    rw [this]; rfl
  show (do
    let ov ← attributeBase o m env (eval o env)
    standAt ap.atName
    methodCall o m ap pos env ov (es.length + ([] : List Keyword).length) (backTo pos (starEach es env)) (backToKw pos (keywordEach [] env))) = _
  rw [base_of hb]
  unfold methodCall
  rw [few]
  unfold calleeOf methodCallPos
  simp only [if_true, hp, Bool.not_true, Bool.false_or]
  rfl
theorem RepF.look {c : Cf} {G : Hp} {m : Str} : ∀ {fs : List (Str × V)} {ds : List (Str × D)}, RepF c G fs ds → RepO c G (fs.lookup m) (ds.lookup m)
  | _, _, .nil => trivial
  | _, _, @RepF.cons _ _ k v vs d ds h r => by
    by_cases e : m = k
    · have hb : (m == k) = true := beq_iff_eq.mpr e
      simp only [List.lookup, hb]
      exact h
    · have hb : (m == k) = false := beq_eq_false_iff_ne.mpr e
      simp only [List.lookup, hb]
      exact r.look
theorem s_mth {f : Nat} {o : E} {es : Es} {m : Str} {ap : Pos} {xs : List PySem.Expr} (hX : CxOk Γ c cf ar k N sc E0 X) (h : chk Γ N sc (.mth f o es) (.Call (.Attribute x m ap) xs [] pos) = true) (ho : PE X x (tE c E0 .rd ρ (ev Γ cf o ρ))) (ha : PA X xs (tA c E0 true ρ (evs Γ cf es ρ))) :
    SE c E0 X (.Call (.Attribute x m ap) xs [] pos) (mdOf Γ (.mth f o es)) ρ (ev Γ cf (.mth f o es) ρ) := by
  simp only [chk, Bool.and_eq_true] at h
  obtain ⟨⟨⟨⟨⟨h1, h2⟩, h3⟩, h4⟩, h5⟩, h6⟩ := h
  cases hm : Γ.mt f with
  | none => rw [hm] at h3; cases h3
  | some q =>
    obtain ⟨C, m'⟩ := q
    rw [hm] at h3
    have em : m = m' := by simpa using h3
    subst em
    obtain ⟨a, fd, ps, f1, f2, f3, f4, f5⟩ := hX.g.mt f C m hm
    obtain ⟨cn, hcn⟩ := Option.isSome_iff_exists.mp f1
    obtain ⟨_, co⟩ := hX.g.cls C cn hcn
    have st := chks_star_ h4
    have key : ∀ σ H Q, tE c E0 (mdOf Γ (.mth f o es)) ρ (ev Γ cf (.mth f o es) ρ) σ H Q → tMeth (c.cl C) m (spF Γ c cf f (ar f)) [] E0 (tE c E0 .rd ρ (ev Γ cf o ρ)) (tA c E0 true ρ (evs Γ cf es ρ)) σ H Q := fun σ H Q h => by
      refine tE_seq (m := mdOf Γ (.mth f o es)) (f := fun x s => if mthOk Γ f x then (evs Γ cf es ρ s).bind fun ds s => cf f (x :: ds) s else .no) h fun G1 H1 v d ds1 e1 r1 p1 => ?_
      cases hk : mthOk Γ f d with
      | false => rw [hk] at p1; exact p1.elim
      | true =>
        rw [hk] at p1
        unfold mthOk at hk
        rw [hm] at hk
        cases d with
        | obj k' fs =>
          (simp only [Bool.and_eq_true] at hk)
          have ek : k' = C := of_decide_eq_true hk.1
          subst ek
          obtain ⟨p, dx, gs, rfl, hp, rf⟩ := ro_obj e1.on r1
          have rr : Rep c.toCf G1 (.ref p) (.obj k' fs) := by
            rcases r1 with r1 | ⟨_, _, _, _, t⟩
            · exact r1
            · cases t
          have lk := rf.look (m := m)
          rw [Option.isNone_iff_eq_none.mp hk.2] at lk
          refine ⟨p, dx, gs, rfl, hp, ?_, ?_⟩
          · cases q : gs.lookup m with
            | none => rfl
            | some _ => rw [q] at lk; exact lk.elim
          · refine ⟨G1, ds1, e1, postG_seq (mono_ro _) e1 p1 fun G2 H2 vs as ds2 e2 s2 r2 p2 => ?_⟩
            have r2 : Reps c.toCf G2 vs as := r2
            rw [List.append_nil]
            refine ⟨G2, _, ds2, e2.on, e2.tn, e2.st, .cons (rr.mono s2.ex) r2, ?_, p2⟩
            by_cases q : (D.obj k' fs :: as).length = ar f
            · rw [← q, List.length_cons, List.length_cons, r2.len]
            · rw [hX.g.arn f _ ds2 q] at p2; exact p2.elim
        | _ => cases hk
    refine SE.plain ?_ (fun _ _ e => by cases e) (fun _ _ _ e => by cases e) (fun _ _ _ _ e => by cases e)
    cases xs with
    | nil =>
      refine pe_imp (pe_meth0 ho co.cl f2 f5 hX.room f3 .nil hX.pass (meth_ht h2 (fun e he => by simp at he) (by simp) h6)) fun σ H Q h => ?_
      have q := key σ H Q h
      cases es with
      | cons _ _ => simp [chks] at h4
      | nil => exact tE_mono (fun x H1 ⟨a, dx, fs, q1, q2, q3, q4⟩ => ⟨a, dx, fs, q1, q2, q3, tA_nil q4⟩) q
    | cons y ys =>
      exact pe_imp (pe_meth ho co.cl f2 f5 hX.room f3 .nil hX.pass ha (star_cons (st y List.mem_cons_self)) (star_plain fun e he => st e (List.mem_cons_of_mem _ he)) (meth_ht h2 st (of_decide_eq_true h5) h6)) key
/-- C(..) of an own class -/
theorem s_new {f : Nat} {es : Es} {n : Str} {p : Pos} {xs : List PySem.Expr} (hX : CxOk Γ c cf ar k N sc E0 X) (h : chk Γ N sc (.new f es) (.Call (.Name n p) xs [] pos) = true) (ha : PA X xs (tA c E0 true ρ (evs Γ cf es ρ))) :
    SE c E0 X (.Call (.Name n p) xs [] pos) .rep ρ (ev Γ cf (.new f es) ρ) := by
  simp only [chk, Bool.and_eq_true] at h
  (obtain ⟨⟨⟨h1, h2⟩, h3⟩, h4⟩ := h)
  cases hm : Γ.nw f with
  | none => rw [hm] at h1; cases h1
  | some C =>
    rw [hm] at h1
    obtain ⟨g1, g2⟩ := gl_of hX h2
    obtain ⟨mgC, co⟩ := hX.g.cls C n (of_decide_eq_true h1)
    obtain ⟨k0, a, fd, ps, hk, f2, f3, f4, f5⟩ := hX.g.nw f C hm
    have st := chks_star_ h3
    cases xs with
    | nil => exact absurd rfl (of_decide_eq_true h4)
    | cons y ys =>
      refine SE.plain (pe_imp (pe_make f2 f5 (hX.room.mono hk) g1 mgC f3 .nil hX.pass ha g2 (star_cons (st y List.mem_cons_self)) (star_plain fun e he => st e (List.mem_cons_of_mem _ he))) fun σ H Q h => ?_)
        (fun _ _ e => by cases e) (fun _ _ _ e => by cases e) (fun _ _ _ _ e => by cases e)
      refine tA_seq (m := .rep) (f := fun ds s => cf f ds s) (R := fun vs H1 => ∀ x dx, H1 x = none → H1 dx = none → dx ≠ x →
        spN c cf f C (ar f + 1) (.ref x :: (vs ++ [])) (upd (upd H1 dx (.own x)) x (.ins (c.cl C) dx [])) (fun v H2 => v = .non ∧ Q (.ref x) H2) E0) h fun G1 H1 vs as ds1 e1 r1 p1 => ?_
      intro x dx nx nd ne
      have r1 : Reps c.toCf G1 vs as := r1
      rw [List.append_nil]
      have len : as.length = ar f := by
        by_cases q : as.length = ar f
        · exact q
        · rw [hX.g.arn f _ ds1 q] at p1; exact p1.elim
      refine ⟨G1, H1, x, dx, vs, as, ds1, rfl, nx, nd, ne, rfl, e1.on, e1.tn, e1.st, r1, by rw [List.length_cons, r1.len, len], ?_⟩
      cases q : cf f as ds1 with
      | no => rw [q] at p1; exact p1
      | er n d dz => rw [q] at p1; exact p1
      | ok d dz =>
        rw [q] at p1
        exact fun G' H' v n s t r ev => ⟨rfl, by rw [← ev]; exact p1 G' H' v n s t r⟩
/-- o.f -/
theorem s_fld {o : E} {f m : Str} (hX : CxOk Γ c cf ar k N sc E0 X) (hf : f = m) (hb : notCall0 x = true) (ho : PE X x (tE c E0 .rd ρ (ev Γ cf o ρ))) : SE c E0 X (.Attribute x m pos) .rep ρ (ev Γ cf (.fld o f) ρ) := by
  subst hf
  refine SE.plain (pe_imp (pe_fld ho (base_of hb)) fun σ H Q h => ?_) (fun _ _ e => by cases e) (fun _ _ _ e => by cases e) (fun _ _ _ _ e => by cases e)
  refine tE_seq (m := .rep) (f := fun y s => (match y with
    | .obj k fs => if (Γ.cls k).isSome ∧ (Γ.cat k).contains f = true then .of (fs.lookup f) s else .no
    | _ => .no)) (R := fun x H1 => ∃ a C dx fs v, x = .ref a ∧ H1 a = some (.ins C dx fs) ∧ Cls X.K C ∧ NoAttr X.K C f ∧ fs.lookup f = some v ∧ Q v H1) h fun G1 H1 v d ds1 e1 r1 p1 => ?_
  cases d with
  | obj k fs =>
    have p1 : Post c E0 .rep G1 H1 (if (Γ.cls k).isSome ∧ (Γ.cat k).contains f = true then .of (fs.lookup f) ds1 else .no) Q := p1
    by_cases hk : (Γ.cls k).isSome ∧ (Γ.cat k).contains f = true
    · rw [if_pos hk] at p1
      obtain ⟨cn, hcn⟩ := Option.isSome_iff_exists.mp hk.1
      obtain ⟨_, co⟩ := hX.g.cls k cn hcn
      obtain ⟨a, dx, gs, rfl, hp, rf⟩ := ro_obj e1.on r1
      have lk := rf.look (m := f)
      cases q : fs.lookup f with
      | none => rw [q] at p1; exact p1.elim
      | some d =>
        rw [q] at p1 lk
        cases q' : gs.lookup f with
        | none => rw [q'] at lk; exact lk.elim
        | some v =>
          rw [q'] at lk
          exact ⟨a, _, dx, gs, v, rfl, hp, co.cl, co.att f (by simpa using hk.2), q', Post.same p1 e1 lk⟩
    · rw [if_neg hk] at p1; exact p1.elim
  | _ => exact p1.elim
theorem s_get1 {o q : E} {ap : Pos} (hX : CxOk Γ c cf ar k N sc E0 X) (hb : notCall0 x = true) (hs : noStar y = true) (hl : (ap.endLine == pos.line) = true) (ho : PE X x (tE c E0 .rd ρ (ev Γ cf o ρ))) (hq : PE X y (tE c E0 .rd ρ (ev Γ cf q ρ))) :
    SE c E0 X (.Call (.Attribute x "get" ap) [y] [] pos) .rep ρ (ev Γ cf (.get1 o q) ρ) := by
  have m1 : M1 X x "get" ap y pos := ⟨base_of hb, by rw [star_cons hs]; rfl, hl, by rw [star_cons hs]; rfl⟩
  refine SE.plain (pe_imp (pe_dget1 (by have := hX.room.un; omega) ho hq m1) fun σ H Q h => ?_) (fun _ _ e => by cases e) (fun _ _ _ e => by cases e) (fun _ _ _ _ e => by cases e)
  refine tE_seq (m := .rep) (f := fun x s => if isDct x then (ev Γ cf q ρ s).bind fun y s => .of (getD? x y .non) s else .no) h fun G1 H1 v d ds1 e1 r1 p1 => ?_
  cases d with
  | dct t kvs =>
    obtain ⟨a, rfl, ha⟩ := isD_at' e1.on r1
    refine ⟨a, rfl, ha, G1, ds1, e1, post_seq (f := fun y s => .of (getD? (.dct t kvs) y .non) s) (m := .rep) e1 p1 fun G2 H2 u d2 ds2 e2 s2 r2 p2 => ?_⟩
    unfold getD? at p2
    cases hk : keyOf d2 with
    | none => rw [hk] at p2; exact p2.elim
    | some ky =>
      rw [hk] at p2
      have p2 : Post c E0 .rep G2 H2 (.of (if kyKind ky = t then some ((dget kvs ky).getD .non) else none) ds2) Q := p2
      by_cases ht : kyKind ky = t
      · rw [if_pos ht] at p2
        obtain ⟨a', w, e', g, r, _⟩ := dget_at e2.on (RO.keep r1 s2) (keyAt e2.on r2 hk) ht
        cases e'
        refine ⟨w, g, Post.same p2 e2 ?_⟩
        cases w <;> cases q : dget kvs ky <;> rw [q] at r <;> first | exact r.elim | exact .non | exact r
      · rw [if_neg ht] at p2; exact p2.elim
  | _ => exact p1.elim
theorem s_get2 {o q w : E} {ap : Pos} (hX : CxOk Γ c cf ar k N sc E0 X) (hb : notCall0 x = true) (hs : noStar y = true) (hs2 : noStar z = true) (hl : (ap.endLine == pos.line) = true) (ho : PE X x (tE c E0 .rd ρ (ev Γ cf o ρ))) (hq : PE X y (tE c E0 .rd ρ (ev Γ cf q ρ))) (hw : PE X z (tE c E0 .rep ρ (ev Γ cf w ρ))) :
    SE c E0 X (.Call (.Attribute x "get" ap) [y, z] [] pos) .rep ρ (ev Γ cf (.get2 o q w) ρ) := by
  have m1 : M2 X x "get" ap y z pos := ⟨base_of hb, by rw [star_cons hs, star_cons hs2]; rfl, hl, by rw [star_cons hs, star_cons hs2]; rfl⟩
  refine SE.plain (pe_imp (pe_dget2 (by have := hX.room.un; omega) ho hq hw m1) fun σ H Q h => ?_) (fun _ _ e => by cases e) (fun _ _ _ e => by cases e) (fun _ _ _ _ e => by cases e)
  refine tE_seq (m := .rep) (f := fun x s => if isDct x then (ev Γ cf q ρ s).bind fun y s => (ev Γ cf w ρ s).bind fun d s => .of (getD? x y d) s else .no) h fun G1 H1 v d ds1 e1 r1 p1 => ?_
  cases d with
  | dct t kvs =>
    obtain ⟨a, rfl, ha⟩ := isD_at' e1.on r1
    refine ⟨a, rfl, ha, G1, ds1, e1, post_seq (f := fun y s => (ev Γ cf w ρ s).bind fun d s => .of (getD? (.dct t kvs) y d) s) (m := .rep) e1 p1 fun G2 H2 u d2 ds2 e2 s2 r2 p2 => ?_⟩
    refine ⟨G2, ds2, e2, post_seq (f := fun d s => .of (getD? (.dct t kvs) d2 d) s) (m := .rep) e2 p2 fun G3 H3 u3 d3 ds3 e3 s3 r3 p3 => ?_⟩
    unfold getD? at p3
    cases hk : keyOf d2 with
    | none => rw [hk] at p3; exact p3.elim
    | some ky =>
      rw [hk] at p3
      have p3 : Post c E0 .rep G3 H3 (.of (if kyKind ky = t then some ((dget kvs ky).getD d3) else none) ds3) Q := p3
      by_cases ht : kyKind ky = t
      · rw [if_pos ht] at p3
        obtain ⟨a', w', e', g, r, _⟩ := dget_at e3.on ((RO.keep r1 s2).keep s3) (keyAt e3.on (RO.keep r2 s3) hk) ht
        cases e'
        refine ⟨w', g, Post.same p3 e3 ?_⟩
        cases w' <;> cases q : dget kvs ky <;> rw [q] at r <;> first | exact r.elim | exact r3 | exact r
      · rw [if_neg ht] at p3; exact p3.elim
  | _ => exact p1.elim
theorem toPys_len : ∀ {ds : List D} {xs : List PyData}, toPys ds = some xs → xs.length = ds.length
  | [], _, h => by simp [toPys] at h; subst h; rfl
  | d :: ds, _, h => by
    simp only [toPys] at h
    cases h1 : toPy d with
    | none => rw [h1] at h; simp at h
    | some x =>
      cases h2 : toPys ds with
      | none => rw [h1, h2] at h; simp at h
      | some ys => rw [h1, h2] at h; simp at h; subst h; simp [toPys_len h2]
theorem s_index {o q : E} {ap : Pos} (hX : CxOk Γ c cf ar k N sc E0 X) (hb : notCall0 x = true) (hs : noStar y = true) (hl : (ap.endLine == pos.line) = true) (ho : PE X x (tE c E0 .rd ρ (ev Γ cf o ρ))) (hq : PE X y (tE c E0 .rd ρ (ev Γ cf q ρ))) :
    SE c E0 X (.Call (.Attribute x "index" ap) [y] [] pos) .rep ρ (ev Γ cf (.index o q) ρ) := by
  have few : ((backTo pos (starEach [y] X.env)).all (fun x => !x.1) && (backToKw pos (keywordEach [] X.env)).all (fun x => x.1.isSome) && decide (([y] : List PySem.Expr).length + ([] : List Keyword).length + (if ([] : List Keyword).isEmpty then 0 else 1) < 30)) = true := by rw [star_cons hs]; rfl
  have pa : PA X [y] (tCons (tE c E0 .rd ρ (ev Γ cf q ρ)) tNil) := pa_cons hq pa_nil (star_cons hs)
  refine SE.plain (pe_imp (pe_bm PySem.F.plainAttrs_list PySem.F.slot_list_index PySem.F.type_list_index (mt_indexD (by have := hX.room.un; omega)) ho pa (base_of hb) few hl (star_cons hs) rfl) fun σ H Q h => ?_) (fun _ _ e => by cases e) (fun _ _ _ e => by cases e) (fun _ _ _ _ e => by cases e)
  refine tE_seq (m := .rep) (f := fun l s => if isLst l then (ev Γ cf q ρ s).bind fun y s => .of (idxD l y) s else .no) h fun G1 H1 v d ds1 e1 r1 p1 => ?_
  cases d with
  | lst ds =>
    obtain ⟨a, xs, rfl, h1, h2⟩ := ro_lst e1.on r1
    refine ⟨.inl ⟨rfl, _, SqL.of h1⟩, G1, ds1, e1, post_seq (f := fun y s => .of (idxD (.lst ds) y) s) (m := .rep) e1 p1 fun G2 H2 u d2 ds2 e2 s2 r2 p2 => ?_⟩
    unfold idxD at p2
    dsimp only at p2
    split at p2
    · rename_i d es hd hes
      split at p2
      · rename_i hsh
        simp only [Bool.and_eq_true] at hsh
        cases hf : es.findIdx? (fun z => PyData.eqv z d) with
        | none => rw [hf] at p2; exact p2.elim
        | some j =>
          rw [hf] at p2
          rw [List.findIdx?_eq_some_iff_getElem] at hf
          obtain ⟨hj, h5, h6⟩ := hf
          refine ⟨a, u, d, es, j, es[j], rfl, rfl, ro_dp e2.on (RO.keep r1 s2) (by simp [toPy, hes]), ro_dp e2.on r2 hd, hsh.2, hsh.1, by simp [hj], h5, fun m z' hm hz => ?_, Post.same p2 e2 (.int _)⟩
          have q := h6 m hm
          have hm' : m < es.length := by omega
          rw [List.getElem?_eq_getElem hm'] at hz
          cases hz
          simpa using q
      · exact p2.elim
    · exact p2.elim
  | _ => exact p1.elim
end
end IR
end
section
set_option Elab.async false
set_option linter.all false
set_option maxRecDepth 100000
set_option maxHeartbeats 4100000
namespace IR
open L2 PySem PySem.Spec PyProof.Rows
section
variable {Γ : Gm} {c : Cg} {cf : Nat → List D → DS → Out D} {ar : Nat → Nat} {k : Nat} {N : List Str} {sc : Scope} {E0 : XK} {X : Cx} {ρ : Env} {m m' : Md} {o o2 o3 : DS → Out D} {x y z : PySem.Expr} {pos : Pos}
/-! ### built-in functions -/
def biMd : Bi → Md
  | .list => .fr
  | _ => .rep
theorem intsOf_rep {c : Cf} {G : Hp} : ∀ {ds : List D} {xs : List V} {ns : List Int}, Reps c G xs ds → intsOf ds = some ns → xs = ns.map V.int
  | _, _, _, .nil, h => by simp [intsOf] at h; subst h; rfl
  | d :: ds, _, ns, .cons q r, h => by
    cases d with
    | int i =>
      simp only [intsOf, Option.map_eq_some_iff] at h
      obtain ⟨nr, h1, rfl⟩ := h
      cases q
      rw [intsOf_rep r h1]; rfl
    | _ => simp [intsOf] at h
theorem blsOf_rep {c : Cf} {G : Hp} : ∀ {ds : List D} {xs : List V} {ns : List Bool}, Reps c G xs ds → blsOf ds = some ns → xs = ns.map V.bl
  | _, _, _, .nil, h => by simp [blsOf] at h; subst h; rfl
  | d :: ds, _, ns, .cons q r, h => by
    cases d with
    | bl i =>
      simp only [blsOf, Option.map_eq_some_iff] at h
      obtain ⟨nr, h1, rfl⟩ := h
      cases q
      rw [blsOf_rep r h1]; rfl
    | _ => simp [blsOf] at h
theorem fold_max : ∀ (r : List Int) (i : Int), (r.foldl (fun m x => if x > m then x else m) i ∈ i :: r) ∧ ∀ y ∈ i :: r, y ≤ r.foldl (fun m x => if x > m then x else m) i
  | [], i => ⟨List.mem_cons_self, fun y h => by simp at h; subst h; exact Int.le_refl _⟩
  | a :: r, i => by
    obtain ⟨h1, h2⟩ := fold_max r (if a > i then a else i)
    refine ⟨?_, fun y hy => ?_⟩
    · simp only [List.foldl_cons]
      (rcases List.mem_cons.mp h1 with e | e)
      · rw [e]
        split
        · exact List.mem_cons_of_mem _ List.mem_cons_self
        · exact List.mem_cons_self
      · exact List.mem_cons_of_mem _ (List.mem_cons_of_mem _ e)
    · simp only [List.foldl_cons]
      have h3 := h2 (if a > i then a else i) List.mem_cons_self
      (rcases List.mem_cons.mp hy with e | e)
      · subst e
        refine Int.le_trans ?_ h3
        split <;> omega
      · (rcases List.mem_cons.mp e with e | e)
        · subst e
          refine Int.le_trans ?_ h3
          split <;> omega
        · exact h2 y (List.mem_cons_of_mem _ e)
theorem max_uniq {ns : List Int} {a b : Int} (h : maxL ns = some a) (hb : b ∈ ns) (hm : ∀ y, y ∈ ns → y ≤ b) : b = a := by
  cases ns with
  | nil => cases hb
  | cons i r =>
    simp only [maxL, Option.some.injEq] at h
    obtain ⟨h1, h2⟩ := fold_max r i
    rw [h] at h1 h2
    exact Int.le_antisymm (h2 b hb) (hm a h1)
def rBi (b : Bi) (X : Cx) : List V → Hp → VK → Prop := match b with
  | .len => fun xs H Q => (∃ x n, xs = [x] ∧ LenV X.K x H n ∧ Q (.int n) H) ∨ ∃ a kvs, xs = [V.ref a] ∧ Rd H a (.dK kvs) ∧ Q (.int kvs.length) H
  | .abs => fun xs H Q => ∃ i, xs = [.int i] ∧ Q (.int (if i < 0 then -i else i)) H
  | .max2 => fun xs H Q => ∃ i j, xs = [.int i, .int j] ∧ Q (.int (if j > i then j else i)) H
  | .max1 => rMax X.K
  | .int => fun xs H Q => (∃ i, xs = [.int i] ∧ Q (.int i) H) ∨ ∃ k, xs = [.bl k] ∧ Q (.int (if k then 1 else 0)) H
  | .str => fun xs H Q => ∃ i, xs = [.int i] ∧ i.natAbs.log2 < 1920 ∧ Q (.str (toString i)) H
  | .list => fun xs H Q => ∃ p ys, xs = [.ref p] ∧ (SqL X.K H p ys ∨ SqT X.K H p ys) ∧ ∀ l, H l = none → Q (.ref l) (upd H l (.lst ys))
  | .tuple => fun xs H Q => ∃ p ys, xs = [.ref p] ∧ ((SqL X.K H p ys ∧ ∀ l, H l = none → Q (.ref l) (upd H l (.tup ys))) ∨ (SqT X.K H p ys ∧ Q (.ref p) H))
  | .all => rAll X.K
  | .any => rAny X.K
theorem call_lenR : CallR X (.builtin "len") (fun xs H Q => ∃ a kvs, xs = [V.ref a] ∧ Rd H a (.dK kvs) ∧ Q (.int kvs.length) H) := by
  (intro pins s σ H xs us Q I r h)
  (obtain ⟨a, kvs, rfl, ha, q⟩ := h)
  (obtain ⟨u, rfl, ru⟩ := vals1 r)
  cases ru
  exact d_len I ha fun t s' I' => ⟨.int kvs.length, H, I', ⟨t, rfl⟩, q⟩
theorem RdS.one {c : Cf} {G H : Hp} {vs : List V} {d : D} (r : RdS c G H vs [d]) : ∃ v, vs = [v] ∧ RO c .rd H G H v d := by
  cases r with
  | cons h r => cases r; exact ⟨_, rfl, h⟩
theorem RdS.two {c : Cf} {G H : Hp} {vs : List V} {d e : D} (r : RdS c G H vs [d, e]) : ∃ v u, vs = [v, u] ∧ RO c .rd H G H v d ∧ RO c .rd H G H u e := by
  cases r with
  | cons h r => cases r with
    | cons h2 r => cases r; exact ⟨_, _, rfl, h, h2⟩
theorem bi_rule {b : Bi} {σ : L2.St} {G H : Hp} {ds : DS} {vs : List V} {as : List D} {d : D} {Q : VK} (e : EI c.toCf G σ ρ H ds) (r : RdS c.toCf G H vs as) (h : biD b as = some d) (p : Post c E0 (biMd b) G H (.ok d ds) Q) : rBi b X vs H Q := by
  unfold biD at h
  split at h
  · cases h
    obtain ⟨v, rfl, r0⟩ := r.one
    obtain ⟨a, xs, rfl, h1, h2⟩ := ro_lst e.on r0
    exact .inl ⟨_, _, rfl, .inl ⟨xs, SqL.of h1, rfl⟩, by rw [h2.len]; exact Post.same p e (.int _)⟩
  · cases h
    obtain ⟨v, rfl, r0⟩ := r.one
    obtain ⟨a, xs, rfl, h1, _, h2⟩ := ro_tup e.on r0
    exact .inl ⟨_, _, rfl, .inr ⟨xs, SqT.of h1, rfl⟩, by rw [h2.len]; exact Post.same p e (.int _)⟩
  · split at h
    · rename_i s hs
      cases h
      obtain ⟨v, rfl, r0⟩ := r.one
      rw [ro_str r0]
      exact .inl ⟨_, _, rfl, ⟨by rw [← lim_eq]; exact hs, rfl⟩, Post.same p e (.int _)⟩
    · cases h
  · cases h
    obtain ⟨v, rfl, r0⟩ := r.one
    obtain ⟨a, xs, rfl, h1, h2⟩ := ro_dk e.on r0
    refine .inr ⟨_, _, rfl, h1, ?_⟩
    have hl : ∀ {xs : List (Key × V)} {ds : List (Ky × D)}, RepK c.toCf G xs ds → xs.length = ds.length := by
      intro xs ds q
      induction ds generalizing xs with
      | nil => cases q; rfl
      | cons d ds ih => cases q with
        | cons h r => simp [ih r]
    rw [hl h2]
    exact Post.same p e (.int _)
  · cases h
    obtain ⟨v, rfl, r0⟩ := r.one
    rw [ro_int r0]
    exact ⟨_, rfl, Post.same p e (.int _)⟩
  · cases h
    obtain ⟨v, u, rfl, r1, r2⟩ := r.two
    rw [ro_int r1, ro_int r2]
    exact ⟨_, _, rfl, Post.same p e (.int _)⟩
  · rename_i ds'
    cases hn : intsOf ds' with
    | none => rw [hn] at h; cases h
    | some ns =>
      rw [hn] at h
      (simp only [Option.map_eq_some_iff] at h)
      obtain ⟨a, h1, rfl⟩ := h
      obtain ⟨v, rfl, r0⟩ := r.one
      obtain ⟨p', xs, rfl, h2, h3⟩ := ro_lst e.on r0
      rw [intsOf_rep h3 hn] at h2
      refine ⟨p', ns, rfl, SqL.of h2, ?_, fun m hm hy => ?_⟩
      · cases ns with
        | nil => cases h1
        | cons _ _ => simp
      · rw [max_uniq h1 hm hy]
        exact Post.same p e (.int _)
  · cases h
    obtain ⟨v, rfl, r0⟩ := r.one
    rw [ro_int r0]
    exact .inl ⟨_, rfl, Post.same p e (.int _)⟩
  · split at h
    · rename_i hs
      cases h
      obtain ⟨v, rfl, r0⟩ := r.one
      rw [ro_int r0]
      exact ⟨_, rfl, hs, Post.same p e (.str _)⟩
    · cases h
  · cases h
    obtain ⟨v, rfl, r0⟩ := r.one
    obtain ⟨a, xs, rfl, h1, h2⟩ := ro_lst e.on r0
    exact ⟨a, xs, rfl, .inl (SqL.of h1), fun l hl => Post.new p e hl (.lst upd_same h2)⟩
  · cases h
    obtain ⟨v, rfl, r0⟩ := r.one
    obtain ⟨a, xs, rfl, h1, _, h2⟩ := ro_tup e.on r0
    exact ⟨a, xs, rfl, .inr (SqT.of h1), fun l hl => Post.new p e hl (.lst upd_same h2)⟩
  · cases h
    obtain ⟨v, rfl, r0⟩ := r.one
    obtain ⟨a, xs, rfl, h1, h2⟩ := ro_lst e.on r0
    exact ⟨a, xs, rfl, .inl ⟨SqL.of h1, fun l hl => Post.newK p e hl (.tup upd_same (h2.mono (Sub.upd (e.on.free hl))))⟩⟩
  · cases h
    obtain ⟨v, rfl, r0⟩ := r.one
    obtain ⟨a, xs, rfl, h1, h1', h2⟩ := ro_tup e.on r0
    exact ⟨a, xs, rfl, .inr ⟨SqT.of h1, Post.same p e (.tup h1' h2)⟩⟩
  · simp only [Option.map_eq_some_iff] at h
    obtain ⟨bs, h1, rfl⟩ := h
    obtain ⟨v, rfl, r0⟩ := r.one
    obtain ⟨a, xs, rfl, h2, h3⟩ := ro_lst e.on r0
    rw [blsOf_rep h3 h1] at h2
    exact ⟨a, bs, rfl, SqL.of h2, Post.same p e (.bl _)⟩
  · simp only [Option.map_eq_some_iff] at h
    obtain ⟨bs, h1, rfl⟩ := h
    obtain ⟨v, rfl, r0⟩ := r.one
    obtain ⟨a, xs, rfl, h2, h3⟩ := ro_lst e.on r0
    rw [blsOf_rep h3 h1] at h2
    exact ⟨a, bs, rfl, SqL.of h2, Post.same p e (.bl _)⟩
  · cases h
theorem free_of {n : Str} (hX : CxOk Γ c cf ar k N sc E0 X) (h : freeB Γ sc n = true) : Gl X n ∧ (n == ("__debug__" : Str)) = false ∧ X.mg n = none ∧ n ≠ "__name__" := by
  simp only [freeB, Bool.and_eq_true] at h
  obtain ⟨⟨h1, h2⟩, h3⟩ := h
  obtain ⟨g1, g2⟩ := gl_of hX h1
  exact ⟨g1, g2, hX.g.free _ h2, by simpa using h3⟩
theorem boot_of : ∀ b : Bi, bootBuiltins (biName b) = (match b with
    | .int => some (.type "int") | .str => some (.type "str") | .list => some (.type "list") | .tuple => some (.type "tuple")
    | .len => some (.builtin "len") | .abs => some (.builtin "abs") | .max2 => some (.builtin "max") | .max1 => some (.builtin "max") | .all => some (.builtin "all") | .any => some (.builtin "any")) := by
  intro b; cases b <;> rfl
theorem s_bi {b : Bi} {es : Es} {n : Str} {p : Pos} {xs : List PySem.Expr} (hX : CxOk Γ c cf ar k N sc E0 X) (h : chk Γ N sc (.bi b es) (.Call (.Name n p) xs [] pos) = true) (ha : PA X xs (tA c E0 false ρ (evs Γ cf es ρ))) :
    SE c E0 X (.Call (.Name n p) xs [] pos) (mdOf Γ (.bi b es)) ρ (ev Γ cf (.bi b es) ρ) := by
  simp only [chk, Bool.and_eq_true] at h
  (obtain ⟨⟨⟨h1, h2⟩, h3⟩, h4⟩ := h)
  have e := of_decide_eq_true h1
  subst e
  obtain ⟨g1, g2, g3, g4⟩ := free_of hX h2
  have st := chks_star_ h3
  have len := of_decide_eq_true h4
  cases xs with
  | nil =>
    cases es with
    | nil => cases b <;> cases len
    | cons _ _ => simp [chks] at h3
  | cons y ys =>
    have key : ∀ σ H Q, tE c E0 (mdOf Γ (.bi b es)) ρ (ev Γ cf (.bi b es) ρ) σ H Q → tCB (rBi b X) (tA c E0 false ρ (evs Γ cf es ρ)) σ H Q := fun σ H Q h => by
      refine tA_seq (m := mdOf Γ (.bi b es)) (f := fun ds s => .of (biD b ds) s) (R := fun vs H1 => rBi b X vs H1 Q) h fun G1 H1 vs as ds1 e1 r1 p1 => ?_
      have r1 : RdS c.toCf G1 H1 vs as := r1
      have p1 : Post c E0 (mdOf Γ (.bi b es)) G1 H1 (.of (biD b as) ds1) Q := p1
      cases hd : biD b as with
      | none => rw [hd] at p1; exact p1.elim
      | some d =>
        rw [hd] at p1
        refine bi_rule (E0 := E0) e1 r1 hd ?_
        cases b <;> exact p1
    have s1 := star_cons (es := ys) (env := X.env) (st y List.mem_cons_self)
    have s2 := star_plain (pos := pos) (env := X.env) fun e he => st e (List.mem_cons_of_mem _ he)
    have bt := boot_of b
    refine SE.plain ?_ (fun _ _ e => by cases e) (fun _ _ _ e => by cases e) (fun _ _ _ _ e => by cases e)
    cases b with
    | len => exact pe_imp (pe_callB (call_len.or call_lenR) g1 g3 bt ha g4 g2 s1 s2) key
    | abs => exact pe_imp (pe_callB call_abs g1 g3 bt ha g4 g2 s1 s2) key
    | max2 => exact pe_imp (pe_callB (call_max2 hX.calm) g1 g3 bt ha g4 g2 s1 s2) key
    | max1 => exact pe_imp (pe_callB (cr_max hX.calm) g1 g3 bt ha g4 g2 s1 s2) key
    | int => exact pe_imp (pe_callTy call_int1 g1 g3 bt ha g4 g2 s1 s2) key
    | str => exact pe_imp (pe_callTy call_str_int g1 g3 bt ha g4 g2 s1 s2) key
    | list => exact pe_imp (pe_callTy call_list_of g1 g3 bt ha g4 g2 s1 s2) key
    | tuple => exact pe_imp (pe_callTy call_tuple_of g1 g3 bt ha g4 g2 s1 s2) key
    | all => exact pe_imp (pe_callB (cr_all hX.calm) g1 g3 bt ha g4 g2 s1 s2) key
    | any => exact pe_imp (pe_callB (cr_any hX.calm) g1 g3 bt ha g4 g2 s1 s2) key
/-! ### list(range(n)) -/
theorem rg_reps {c : Cf} {G : Hp} (lo : Int) : ∀ (l : List Nat), Reps c G (l.map fun (i : Nat) => V.int (lo + (i : Int))) (l.map fun (i : Nat) => D.int (lo + (i : Int)))
  | [] => .nil
  | i :: l => .cons (.int _) (rg_reps lo l)
theorem s_lrng {a : E} {n1 n2 : Str} {p1 p2 pos2 : Pos} (hX : CxOk Γ c cf ar k N sc E0 X) (e1 : n1 = "list") (e2 : n2 = "range") (f1 : freeB Γ sc n1 = true) (f2 : freeB Γ sc n2 = true) (hs : noStar x = true) (ha : PE X x (tE c E0 .rd ρ (ev Γ cf a ρ))) :
    SE c E0 X (.Call (.Name n1 p1) [.Call (.Name n2 p2) [x] [] pos2] [] pos) .fr ρ (ev Γ cf (.lrng a) ρ) := by
  subst e1 e2
  obtain ⟨g1, _, g3, _⟩ := free_of hX f1
  obtain ⟨k1, _, k3, _⟩ := free_of hX f2
  refine SE.plain (pe_imp (pe_listRg hX.calm g1 g3 (prg_1 k1 k3 ha (star_cons hs)) (star_cons rfl)) fun σ H Q h => ?_) (fun _ _ e => by cases e) (fun _ _ _ e => by cases e) (fun _ _ _ _ e => by cases e)
  refine tE_seq (m := .fr) (f := fun x s => (match x with
    | .int n => if n ≤ lim ∧ -(2 ^ 62) ≤ n then .ok (.lst (rangeD 0 n.toNat)) s else .no
    | _ => .no)) h fun G1 H1 v d ds1 e1 r1 p1 => ?_
  cases d with
  | int n =>
    have p1 : Post c E0 .fr G1 H1 (if n ≤ lim ∧ -(2 ^ 62) ≤ n then .ok (.lst (rangeD 0 n.toNat)) ds1 else .no) Q := p1
    by_cases hn : n ≤ lim ∧ -(2 ^ 62) ≤ n
    · rw [if_pos hn] at p1
      refine ⟨n, ro_int r1, ⟨by omega, by omega, by omega, by have := hn.1; simp only [lim] at this; omega, by have := hn.1; simp only [lim] at this; omega⟩, fun q hq => Post.new p1 e1 hq (.lst upd_same ?_)⟩
      have := rg_reps (c := c.toCf) (G := G1) 0 (List.range n.toNat)
      unfold rgV rangeD
      rw [Int.sub_zero]
      exact this
    · rw [if_neg hn] at p1; exact p1.elim
  | _ => exact p1.elim
/-! ### isinstance -/
theorem kb : ∀ a ∈ tyNs, ∀ b ∈ ["int", "str", "list", "tuple", "dict", "bool"], kitB a b = some (a == b || (a == "bool" && b == "int")) := by decide +kernel
def tyV (c : Cf) : Ty → Value
  | .b n => .type n
  | .c k => .ref (c.cl k)
def tyVV (c : Cf) : Ty → V
  | .b n => .ty n
  | .c k => .ref (c.cl k)
theorem tyV_cls {c : Cf} (t : Ty) : ClsV (tyVV c t) (tyV c t) := by
  cases t with
  | b n => exact .ty n
  | c k => exact .own _
/-- is this class named in the text? -/
def tyOk (Γ : Gm) : Ty → Prop
  | .b n => n ∈ ["int", "str", "list", "tuple", "dict", "bool"]
  | .c k => (Γ.cls k).isSome = true
def notDt : D → Bool
  | .dct true _ => false
  | _ => true
theorem ty_at {G H H0 : Hp} {v : V} {d : D} (g : GX Γ c cf ar k X.prog X.w X.K X.mg X.base) (n : On G H) (ok : objOk Γ d = true) (r : RO c.toCf .rd H0 G H v d) {t : Ty} {b : Bool} (h : isT d t = some b) : ∃ u, TyX X.K H v u ∧
    ∀ {t : Ty} {b : Bool}, tyOk Γ t → isT d t = some b → PySem.W.kitOne X.K u (tyV c.toCf t) = some b := by
  have base : ∀ (a : String), a ∈ tyNs → (∀ n, n ∈ ["int", "str", "list", "tuple", "dict", "bool"] → ∀ b, isT d (.b n) = some b → b = (a == n || (a == "bool" && n == "int"))) → (∀ j b, isT d (.c j) = some b → b = false) →
      ∀ {t : Ty} {b : Bool}, tyOk Γ t → isT d t = some b → PySem.W.kitOne X.K (.type a) (tyV c.toCf t) = some b := by
    intro a ha h1 h2 t b ok' hb
    cases t with
    | b n =>
      have q := kb a ha n ok'
      rw [h1 n ok' b hb]
      exact kit_ty q
    | c j =>
      have e := h2 j b hb
      subst e
      obtain ⟨cn, hcn⟩ := Option.isSome_iff_exists.mp ok'
      obtain ⟨_, co⟩ := g.cls j cn hcn
      exact co.no a ha
  cases d with
  | non =>
    rw [ro_non r]
    refine ⟨_, .base .non, base "NoneType" (by decide) (fun n hn b hb => ?_) fun j b hb => ?_⟩
    · simp only [List.mem_cons, List.mem_nil_iff, or_false] at hn
      rcases hn with rfl | rfl | rfl | rfl | rfl | rfl <;> (simp [isT] at hb; subst hb; decide)
    · simp [isT] at hb; exact hb
  | bl _ =>
    rw [ro_bl r]
    refine ⟨_, .base (.bl _), base "bool" (by decide) (fun n hn b hb => ?_) fun j b hb => ?_⟩
    · simp only [List.mem_cons, List.mem_nil_iff, or_false] at hn
      rcases hn with rfl | rfl | rfl | rfl | rfl | rfl <;> (simp [isT] at hb; subst hb; decide)
    · simp [isT] at hb; exact hb
  | int _ =>
    rw [ro_int r]
    refine ⟨_, .base (.int _), base "int" (by decide) (fun n hn b hb => ?_) fun j b hb => ?_⟩
    · simp only [List.mem_cons, List.mem_nil_iff, or_false] at hn
      rcases hn with rfl | rfl | rfl | rfl | rfl | rfl <;> (simp [isT] at hb; subst hb; decide)
    · simp [isT] at hb; exact hb
  | str _ =>
    rw [ro_str r]
    refine ⟨_, .base (.str _), base "str" (by decide) (fun n hn b hb => ?_) fun j b hb => ?_⟩
    · simp only [List.mem_cons, List.mem_nil_iff, or_false] at hn
      rcases hn with rfl | rfl | rfl | rfl | rfl | rfl <;> (simp [isT] at hb; subst hb; decide)
    · simp [isT] at hb; exact hb
  | lst _ =>
    obtain ⟨a, xs, rfl, h1, h2⟩ := ro_lst n r
    refine ⟨_, .base (.lst h1), base "list" (by decide) (fun n hn b hb => ?_) fun j b hb => ?_⟩
    · simp only [List.mem_cons, List.mem_nil_iff, or_false] at hn
      rcases hn with rfl | rfl | rfl | rfl | rfl | rfl <;> (simp [isT] at hb; subst hb; decide)
    · simp [isT] at hb; exact hb
  | tup _ =>
    obtain ⟨a, xs, rfl, h1, _, h2⟩ := ro_tup n r
    refine ⟨_, .base (.tup h1), base "tuple" (by decide) (fun n hn b hb => ?_) fun j b hb => ?_⟩
    · simp only [List.mem_cons, List.mem_nil_iff, or_false] at hn
      rcases hn with rfl | rfl | rfl | rfl | rfl | rfl <;> (simp [isT] at hb; subst hb; decide)
    · simp [isT] at hb; exact hb
  | dct t kvs =>
    have hty : ∃ a, v = .ref a ∧ TyX X.K H v (.type "dict") := by
      cases t with
      | false =>
        obtain ⟨a, xs, rfl, h1, h2⟩ := ro_dk n r
        rcases h1 with h1 | ⟨b, h1⟩
        · exact ⟨a, rfl, .base (.dK h1)⟩
        · exact ⟨a, rfl, .fDict h1⟩
      | true => exact absurd ok (by simp [objOk])
    obtain ⟨a, rfl, hty⟩ := hty
    refine ⟨_, hty, base "dict" (by decide) (fun n hn b hb => ?_) fun j b hb => ?_⟩
    · simp only [List.mem_cons, List.mem_nil_iff, or_false] at hn
      rcases hn with rfl | rfl | rfl | rfl | rfl | rfl <;> (simp [isT] at hb; subst hb; decide)
    · simp [isT] at hb; exact hb
  | obj i fs =>
    obtain ⟨a, dx, gs, rfl, hp, rf⟩ := ro_obj n r
    obtain ⟨cn, hcn⟩ := Option.isSome_iff_exists.mp ok
    obtain ⟨_, co⟩ := g.cls i cn hcn
    refine ⟨_, .base (.ins hp co.cl co.ha co.hn co.htk.symm co.hm), fun {t b} ok' hb => ?_⟩
    cases t with
    | b n =>
      have ok' : n ∈ ["int", "str", "list", "tuple", "dict", "bool"] := ok'
      have e : b = false := by
        simp only [List.mem_cons, List.mem_nil_iff, or_false] at ok'
        rcases ok' with rfl | rfl | rfl | rfl | rfl | rfl <;> (simp [isT] at hb; exact hb)
      subst e
      refine co.out n ?_
      simp only [List.mem_cons, List.mem_nil_iff, or_false] at ok' ⊢
      rcases ok' with rfl | rfl | rfl | rfl | rfl | rfl <;> simp
    | c j =>
      simp only [isT] at hb
      split at hb
      · rename_i e
        subst e
        cases hb
        exact co.self
      · cases hb
  | st => cases t <;> cases h
theorem kit_all {u : Value} {d : D} (hk : ∀ {t : Ty} {b : Bool}, tyOk Γ t → isT d t = some b → PySem.W.kitOne X.K u (tyV c.toCf t) = some b) : ∀ {ts : List Ty} {b : Bool}, (∀ t ∈ ts, tyOk Γ t) → isTs d ts = some b → PySem.W.kitAny X.K u (ts.map (tyV c.toCf)) = some b
  | [], b, _, h => by simp [isTs] at h; subst h; exact kitAny_nil
  | t :: ts, b, ok, h => by
    simp only [isTs] at h
    cases ht : isT d t with
    | none => (rw [ht] at h; cases h)
    | some r =>
      rw [ht] at h
      have k1 := hk (ok t List.mem_cons_self) ht
      cases r with
      | true =>
        cases h
        exact kitAny_cons k1 (fun e => by cases e) fun _ => rfl
      | false =>
        exact kitAny_cons k1 (fun _ => kit_all hk (fun t h => ok t (List.mem_cons_of_mem _ h)) h) fun e => by cases e
theorem kit_one {u : Value} {d : D} {t : Ty} {b : Bool} (hk : ∀ {t : Ty} {b : Bool}, tyOk Γ t → isT d t = some b → PySem.W.kitOne X.K u (tyV c.toCf t) = some b) (ok : tyOk Γ t) (h : isTs d [t] = some b) : PySem.W.kitOne X.K u (tyV c.toCf t) = some b := by
  simp only [isTs] at h
  cases ht : isT d t with
  | none => (rw [ht] at h; cases h)
  | some r =>
    rw [ht] at h
    have k1 := hk ok ht
    cases r <;> (cases h; exact k1)
theorem boot_tys : ∀ n ∈ ["int", "str", "list", "tuple", "dict", "bool"], bootBuiltins (Str.ofString n) = some (.type n) := by decide +kernel
theorem pe_ty {t : Ty} {z : PySem.Expr} (hX : CxOk Γ c cf ar k N sc E0 X) (h : tyB Γ sc t z = true) : tyOk Γ t ∧ PE X z (tC (tyVV c.toCf t)) := by
  unfold tyB at h
  split at h
  · rename_i n x p
    (simp only [Bool.and_eq_true] at h)
    obtain ⟨⟨h1, h2⟩, h3⟩ := h
    obtain ⟨g1, g2, g3, g4⟩ := free_of hX h1
    have e : x = Str.ofString n := by simpa using h2
    have h3 : n ∈ ["int", "str", "list", "tuple", "dict", "bool"] := by simpa using h3
    exact ⟨h3, pe_bltn g1 g3 (by rw [e]; exact boot_tys n h3) rfl g4 g2⟩
  · rename_i k' x p
    (simp only [Bool.and_eq_true] at h)
    obtain ⟨h1, h2⟩ := h
    obtain ⟨g1, g2⟩ := gl_of hX h1
    cases q : Γ.cls k' with
    | none => rw [q] at h2; cases h2
    | some y =>
      rw [q] at h2
      have e : x = y := by simpa using h2
      subst e
      exact ⟨by show (Γ.cls k').isSome = true; rw [q]; rfl, pe_glob g1 (hX.g.cls k' x q).1 rfl g2⟩
  · cases h
def tVs (vs : List V) : TA := fun _ H Q => Q vs H
theorem pa_tys (hX : CxOk Γ c cf ar k N sc E0 X) : ∀ {ts : List Ty} {es : List PySem.Expr}, tysB Γ sc ts es = true → (∀ t ∈ ts, tyOk Γ t) ∧ PA X es (tVs (ts.map (tyVV c.toCf)))
  | [], [], _ => ⟨fun t h => (by cases h), pa_imp pa_nil fun σ H Q h => h⟩
  | [], _ :: _, h => by simp [tysB] at h
  | _ :: _, [], h => by simp [tysB] at h
  | t :: ts, e :: es, h => by
    simp only [tysB, Bool.and_eq_true] at h
    obtain ⟨⟨h1, h2⟩, h3⟩ := h
    obtain ⟨k1, p1⟩ := pe_ty hX h1
    obtain ⟨k2, p2⟩ := pa_tys hX h3
    refine ⟨fun t' ht => ?_, pa_imp (pa_cons p1 p2 (star_cons h2)) fun σ H Q h => h⟩
    rcases List.mem_cons.mp ht with rfl | ht
    · exact k1
    · exact k2 t' ht
theorem paired_ty {c : Cf} : ∀ (ts : List Ty), Paired ClsV (ts.map (tyVV c)) (ts.map (tyV c))
  | [] => .nil
  | t :: ts => .cons (tyV_cls t) (paired_ty ts)
theorem tyx_upd {K : PySem.W.Frag} {H : Hp} {v : V} {u : Value} {p : Addr} {ob : HO} (h : TyX K H v u) (hp : H p = none) : TyX K (upd H p ob) v u := by
  have ne : ∀ {a : Addr} {q : HO}, H a = some q → L2.upd H p ob a = some q := fun {a q} e => by rw [upd_ne (ne_of_none e hp)]; exact e
  cases h with
  | base h =>
    cases h with
    | non => exact .base .non
    | bl b => exact .base (.bl b)
    | int b => exact .base (.int b)
    | str b => exact .base (.str b)
    | flt b => exact .base (.flt b)
    | lst e => exact .base (.lst (ne e))
    | frz e => exact .base (.frz (ne e))
    | tup e => exact .base (.tup (ne e))
    | dK e => exact .base (.dK (ne e))
    | dT e => exact .base (.dT (ne e))
    | ins e a b c d f => exact .base (.ins (ne e) a b c d f)
  | byt b => exact .byt b
  | set e => exact .set (ne e)
  | kList e d => exact .kList e d
  | kTuple e d => exact .kTuple e d
  | kDict e d => exact .kDict e d
  | fTuple e => exact .fTuple (ne e)
  | fDict e => exact .fDict (ne e)
theorem isTs_ex {d : D} {t : Ty} {ts : List Ty} {b : Bool} (h : isTs d (t :: ts) = some b) : ∃ b', isT d t = some b' := by
  simp only [isTs] at h
  cases q : isT d t with
  | none => rw [q] at h; cases h
  | some b' => exact ⟨b', rfl⟩
theorem s_isi {a : E} {ts : List Ty} {n : Str} {p : Pos} (hX : CxOk Γ c cf ar k N sc E0 X) (h : chk Γ N sc (.isi a ts) (.Call (.Name n p) [y, z] [] pos) = true) (ha : PE X y (tE c E0 .rd ρ (ev Γ cf a ρ))) :
    SE c E0 X (.Call (.Name n p) [y, z] [] pos) .rep ρ (ev Γ cf (.isi a ts) ρ) := by
  simp only [chk, Bool.and_eq_true] at h
  obtain ⟨⟨⟨⟨⟨h1, h2⟩, h3⟩, h4⟩, h5⟩, h6⟩ := h
  have e := of_decide_eq_true h1
  subst e
  obtain ⟨g1, g2, g3, g4⟩ := free_of hX h2
  have bt : bootBuiltins ("isinstance" : Str) = some (.builtin "isinstance") := rfl
  have s1 := star_cons (es := [z]) (env := X.env) h4
  have s2 : (backTo pos (starEach [z] X.env)).any (·.1) = false := star_plain fun e he => by
    simp only [List.mem_cons, List.mem_nil_iff, or_false] at he
    subst he; exact h5
  have go : ∀ {r : List V → Hp → VK → Prop} {tz : TE}, CallR X (.builtin "isinstance") r → PE X z tz →
      (∀ σ G1 H1 ds1 v d b Q, EI c.toCf G1 σ ρ H1 ds1 → RO c.toCf .rd H1 G1 H1 v d → objOk Γ d = true → isTs d ts = some b → Post c E0 .rep G1 H1 (.ok (.bl b) ds1) Q → tz σ H1 fun w H2 => r [v, w] H2 Q) →
      SE c E0 X (.Call (.Name "isinstance" p) [y, z] [] pos) .rep ρ (ev Γ cf (.isi a ts) ρ) := fun {r tz} hr hz key => by
    refine SE.plain (pe_imp (pe_callB hr g1 g3 bt (pa_cons ha (pa_cons hz pa_nil (star_cons h5)) s1) g4 g2 s1 s2) fun σ H Q h => ?_) (fun _ _ e => by cases e) (fun _ _ _ e => by cases e) (fun _ _ _ _ e => by cases e)
    refine tE_seq (m := .rep) (f := fun x s => if objOk Γ x then .of ((isTs x ts).map .bl) s else .no) (R := fun v H1 => tz σ H1 fun w H2 => r [v, w] H2 Q) h fun G1 H1 v d ds1 e1 r1 p1 => ?_
    cases ok : objOk Γ d with
    | false => rw [ok] at p1; exact p1.elim
    | true =>
      rw [ok] at p1
      have p1 : Post c E0 .rep G1 H1 (.of ((isTs d ts).map .bl) ds1) Q := p1
      cases hd : isTs d ts with
      | none => rw [hd] at p1; exact p1.elim
      | some b =>
        rw [hd] at p1
        exact key σ G1 H1 ds1 v d b Q e1 r1 ok hd p1
  unfold tyArg at h6
  split at h6
  · rename_i es j tp
    simp only [Bool.and_eq_true] at h6
    obtain ⟨⟨h6, h7⟩, h8⟩ := h6
    have h7 := of_decide_eq_true h7
    have h8 := of_decide_eq_true h8
    obtain ⟨k1, p1⟩ := pa_tys hX h6
    refine go call_isiT (pe_tup p1) fun σ G1 H1 ds1 v d b Q e1 r1 ok hd q => ?_
    have tlen : (ts.map (tyVV c.toCf)).length ≤ sizeLine := by
      rw [List.length_map, sizeLine_eq]; omega
    refine ⟨tlen, fun q0 hq => ?_⟩
    have hb' : ∃ t b', isT d t = some b' := by
      cases ts with
      | nil => exact absurd h7 (by simp)
      | cons t ts' =>
        obtain ⟨b', h'⟩ := isTs_ex hd
        exact ⟨t, b', h'⟩
    obtain ⟨t, b', hb'⟩ := hb'
    obtain ⟨u, hu, hk⟩ := ty_at hX.g e1.on ok r1 hb'
    have st := Stp.alloc (c := c.toCf) (G := G1) (o := .tup (ts.map (tyVV c.toCf))) hq
    have e2 := e1.step (e1.on.alloc hq) st (e1.st.alloc hq)
    exact ⟨v, q0, _, u, _, b, rfl, upd_same, paired_ty ts, tyx_upd hu hq, kit_all hk k1 hd, Post.same (q.shift (mono_ro .rep) st e2.st) e2 (.bl b)⟩
  · rename_i t _
    obtain ⟨k1, p1⟩ := pe_ty hX h6
    refine go call_isi p1 fun σ G1 H1 ds1 v d b Q e1 r1 ok hd q => ?_
    obtain ⟨b', hb'⟩ := isTs_ex hd
    obtain ⟨u, hu, hk⟩ := ty_at hX.g e1.on ok r1 hb'
    exact ⟨v, _, u, _, b, rfl, tyV_cls t, hu, kit_one hk k1 hd, Post.same q e1 (.bl b)⟩
  · cases h6
end
end IR
end
section
set_option Elab.async false
set_option linter.all false
set_option maxRecDepth 100000
set_option maxHeartbeats 4100000
namespace IR
open L2 PySem PySem.Spec PyProof.Rows
/-! ## what is walked -/
structure JW (c : Cf) (J : L2.It) (items : List D) (Cd : Hp → Hp → Prop) : Prop where
  go : ∀ i G H d, On G H → Cd G H → items[i]? = some d → J.go i H
  stop : ∀ i G H, On G H → Cd G H → items.length ≤ i → J.stop i H
  yl : ∀ i G H x H' d ds, On G H → (∀ a, inT c a → G a = none) → StO c H ds → Cd G H → items[i]? = some d → J.yld i H x H' → ∃ G', On G' H' ∧ Stp c G H G' H' ∧ StO c H' ds ∧ Rep c G' x d
def Stab (c : Cf) (all : Bool) (Cd : Hp → Hp → Prop) : Prop := ∀ G H G' H', (all = true → Sub G G') → (all = false → Stp c G H G' H') → Cd G H → Cd G' H'
def RI (c : Cf) (all : Bool) : Hp → Hp → Hp → L2.It → List D → Prop := fun _ G H J items => ∃ Cd, JW c J items Cd ∧ Stab c all Cd ∧ Cd G H
theorem mono_ri (c : Cf) (all : Bool) : MonoR (RI c all) := fun _ _ _ _ _ _ _ r => r
def tI (c : Cg) (E0 : XK) (all : Bool) (ρ : Env) (o : DS → Out (List D)) : TI := fun σ H R => ∃ G ds, EI c.toCf G σ ρ H ds ∧ PostG c E0 (RI c.toCf all) G H (o ds) R
def Rdy (c : Cf) (all : Bool) (v : V) (d : D) (G H : Hp) : Prop := if all = true then Rep c G v d else RO c .rd H G H v d
theorem Rdy.ro {c : Cf} {all : Bool} {v : V} {d : D} {G H H0 : Hp} (h : Rdy c all v d G H) : RO c .rd H0 G H v d := by
  unfold Rdy at h
  split at h
  · exact .inl h
  · exact h
theorem stab_rdy {c : Cf} {all : Bool} {v : V} {d : D} : Stab c all (Rdy c all v d) := fun G H G' H' h1 h2 h => by
  unfold Rdy at h ⊢
  cases all with
  | true => simp only [if_true] at h ⊢; exact h.mono (h1 rfl)
  | false => simp only [Bool.false_eq_true, if_false] at h ⊢; exact RO.keep h (h2 rfl)
abbrev aM (all : Bool) : Md := if all then .rep else .rd
theorem rdy_of {c : Cf} {all : Bool} {v : V} {d : D} {G H H0 : Hp} (h : RO c (aM all) H0 G H v d) : Rdy c all v d G H := by
  cases all with
  | true => exact h
  | false => exact h
section
variable {c : Cf} {K : PySem.W.Frag}
theorem jw_list {all : Bool} {a : Addr} {ds : List D} : JW c (Itl K a) ds (Rdy c all (.ref a) (.lst ds)) where
  go := fun i G H d n h hi => by
    obtain ⟨p, xs, e, h1, h2⟩ := ro_lst (H0 := H) n h.ro
    cases e
    obtain ⟨x, h3, _⟩ := h2.get hi
    exact ⟨xs, x, SqL.of h1, h3⟩
  stop := fun i G H n h hi => by
    obtain ⟨p, xs, e, h1, h2⟩ := ro_lst (H0 := H) n h.ro
    cases e
    exact ⟨xs, SqL.of h1, by rw [h2.len]; exact hi⟩
  yl := fun i G H x H' d s n t st h hi hy => by
    obtain ⟨p, xs, e, h1, h2⟩ := ro_lst (H0 := H) n h.ro
    cases e
    obtain ⟨rfl, hy⟩ := hy
    obtain ⟨y, h3, h4⟩ := h2.get hi
    rw [hy xs (SqL.of h1)] at h3
    cases h3
    exact ⟨G, n, Stp.refl _ _ _, st, h4⟩
theorem jw_tup {all : Bool} {a : Addr} {ds : List D} : JW c (Itt K a) ds (Rdy c all (.ref a) (.tup ds)) where
  go := fun i G H d n h hi => by
    obtain ⟨p, xs, e, h1, _, h2⟩ := ro_tup (H0 := H) n h.ro
    cases e
    obtain ⟨x, h3, _⟩ := h2.get hi
    exact ⟨xs, x, SqT.of h1, h3⟩
  stop := fun i G H n h hi => by
    obtain ⟨p, xs, e, h1, _, h2⟩ := ro_tup (H0 := H) n h.ro
    cases e
    exact ⟨xs, SqT.of h1, by rw [h2.len]; exact hi⟩
  yl := fun i G H x H' d s n t st h hi hy => by
    obtain ⟨p, xs, e, h1, _, h2⟩ := ro_tup (H0 := H) n h.ro
    cases e
    obtain ⟨rfl, hy⟩ := hy
    obtain ⟨y, h3, h4⟩ := h2.get hi
    rw [hy xs (SqT.of h1)] at h3
    cases h3
    exact ⟨G, n, Stp.refl _ _ _, st, h4⟩
theorem signs_get {z : Str} {i : Nat} {d : D} (h : (strSigns z)[i]? = some d) : ∃ ch, z.cps[i]? = some ch ∧ d = .str ⟨#[ch]⟩ := by
  unfold strSigns at h
  rw [List.getElem?_map] at h
  obtain ⟨ch, h1, rfl⟩ := Option.map_eq_some_iff.mp h
  exact ⟨ch, by rw [← h1, Array.getElem?_toList], rfl⟩
theorem jw_str {z : Str} : JW c (Its z) (strSigns z) (fun _ _ => True) where
  go := fun i G H d n h hi => by
    obtain ⟨ch, h1, _⟩ := signs_get hi
    show i < z.cps.size
    rw [Array.getElem?_eq_some_iff] at h1
    exact h1.1
  stop := fun i G H n h hi => by
    show z.cps.size ≤ i
    simpa [strSigns] using hi
  yl := fun i G H x H' d s n t st h hi hy => by
    obtain ⟨rfl, ch, h1, rfl⟩ := hy
    obtain ⟨ch', h2, rfl⟩ := signs_get hi
    rw [h1] at h2; cases h2
    exact ⟨G, n, Stp.refl _ _ _, st, .str _⟩
theorem range_get {lo : Int} {n i : Nat} {d : D} (h : (rangeD lo n)[i]? = some d) : i < n ∧ d = .int (lo + (i : Int)) := by
  unfold rangeD at h
  rw [List.getElem?_map] at h
  obtain ⟨j, h1, rfl⟩ := Option.map_eq_some_iff.mp h
  rw [List.getElem?_eq_some_iff] at h1
  obtain ⟨h2, h3⟩ := h1
  rw [List.length_range] at h2
  rw [List.getElem_range] at h3
  subst h3
  exact ⟨h2, rfl⟩
theorem jw_range {lo : Int} {n : Nat} : JW c (Itr lo n) (rangeD lo n) (fun _ _ => True) where
  go := fun i G H d _ h hi => (range_get hi).1
  stop := fun i G H _ h hi => by
    show n ≤ i
    simpa [rangeD] using hi
  yl := fun i G H x H' d s n t st h hi hy => by
    obtain ⟨rfl, rfl⟩ := hy
    obtain ⟨_, rfl⟩ := range_get hi
    exact ⟨G, n, Stp.refl _ _ _, st, .int _⟩
theorem enum_get : ∀ {ds : List D} {k i : Nat} {d : D}, (enumD k ds)[i]? = some d → ∃ e, ds[i]? = some e ∧ d = .tup [.int ((k + i : Nat) : Int), e]
  | [], k, i, d, h => by simp [enumD] at h
  | e :: r, k, 0, d, h => by simp [enumD] at h; subst h; exact ⟨e, rfl, rfl⟩
  | e :: r, k, i + 1, d, h => by
    have h : (enumD (k + 1) r)[i]? = some d := by simpa [enumD] using h
    obtain ⟨f, h1, rfl⟩ := enum_get h
    exact ⟨f, by simpa using h1, by rw [Nat.add_right_comm]; rfl⟩
theorem enum_len : ∀ (ds : List D) (k : Nat), (enumD k ds).length = ds.length
  | [], _ => rfl
  | _ :: r, k => by simp [enumD, enum_len r (k + 1)]
/-- a new tuple that is known at once -/
theorem new_tup {G H : Hp} {T : Addr} {xs : List V} {es : List D} {s : DS} (n : On G H) (st : StO c H s) (hT : H T = none) (r : Reps c G xs es) :
    On (upd G T (.tup xs)) (upd H T (.tup xs)) ∧ Stp c G H (upd G T (.tup xs)) (upd H T (.tup xs)) ∧ StO c (upd H T (.tup xs)) s ∧ Rep c (upd G T (.tup xs)) (.ref T) (.tup es) :=
  ⟨(n.alloc hT).know upd_same, (Stp.alloc hT).know (n.free hT) hT, st.alloc hT, .tup upd_same (r.mono (Sub.upd (n.free hT)))⟩
theorem jw_enum {all : Bool} {a : Addr} {ds : List D} : JW c (Ite K a) (enumD 0 ds) (Rdy c all (.ref a) (.lst ds)) where
  go := fun i G H d n h hi => by
    obtain ⟨p, xs, e, h1, h2⟩ := ro_lst (H0 := H) n h.ro
    cases e
    obtain ⟨d', hd, _⟩ := enum_get hi
    obtain ⟨x, h3, _⟩ := h2.get hd
    exact ⟨xs, x, SqL.of h1, h3⟩
  stop := fun i G H n h hi => by
    obtain ⟨p, xs, e, h1, h2⟩ := ro_lst (H0 := H) n h.ro
    cases e
    exact ⟨xs, SqL.of h1, by rw [h2.len, ← enum_len ds 0]; exact hi⟩
  yl := fun i G H x H' d s n t st h hi hy => by
    obtain ⟨p, xs, e, h1, h2⟩ := ro_lst (H0 := H) n h.ro
    cases e
    obtain ⟨T, w, rfl, hT, rfl, hy⟩ := hy
    obtain ⟨d', hd, rfl⟩ := enum_get hi
    obtain ⟨y, h3, h4⟩ := h2.get hd
    rw [hy xs (SqL.of h1)] at h3
    cases h3
    obtain ⟨q1, q2, q3, q4⟩ := new_tup (xs := [.int (i : Nat), w]) n st hT (.cons (.int _) (.cons h4 .nil))
    exact ⟨_, q1, q2, q3, by rw [Nat.zero_add]; exact q4⟩
theorem zip_get {ds es : List D} {i : Nat} {d : D} (h : ((ds.zip es).map fun q => D.tup [q.1, q.2])[i]? = some d) : ∃ x y, ds[i]? = some x ∧ es[i]? = some y ∧ d = .tup [x, y] := by
  rw [List.getElem?_map] at h
  obtain ⟨⟨x, y⟩, h1, rfl⟩ := Option.map_eq_some_iff.mp h
  rw [List.getElem?_zip_eq_some] at h1
  exact ⟨x, y, h1.1, h1.2, rfl⟩
theorem zip_len {ds es : List D} {i : Nat} (h : ((ds.zip es).map fun q => D.tup [q.1, q.2]).length ≤ i) : ds.length ≤ i ∨ es.length ≤ i := by
  rw [List.length_map, List.length_zip] at h
  omega
theorem jw_zip {all : Bool} {a b : Addr} {ds es : List D} : JW c (Itz K a b) ((ds.zip es).map fun q => .tup [q.1, q.2]) (fun G H => Rdy c all (.ref a) (.lst ds) G H ∧ Rdy c all (.ref b) (.lst es) G H) where
  go := fun i G H d n h hi => by
    obtain ⟨p, xs, e, h1, h2⟩ := ro_lst (H0 := H) n h.1.ro
    cases e
    obtain ⟨p, ys, e, k1, k2⟩ := ro_lst (H0 := H) n h.2.ro
    cases e
    obtain ⟨u, w, hu, hw, _⟩ := zip_get hi
    obtain ⟨x, h3, _⟩ := h2.get hu
    obtain ⟨y, k3, _⟩ := k2.get hw
    exact ⟨xs, ys, x, y, SqL.of h1, SqL.of k1, h3, k3⟩
  stop := fun i G H n h hi => by
    obtain ⟨p, xs, e, h1, h2⟩ := ro_lst (H0 := H) n h.1.ro
    cases e
    obtain ⟨p, ys, e, k1, k2⟩ := ro_lst (H0 := H) n h.2.ro
    cases e
    exact ⟨xs, ys, SqL.of h1, SqL.of k1, by rw [h2.len, k2.len]; exact zip_len hi⟩
  yl := fun i G H x H' d s n t st h hi hy => by
    obtain ⟨p, xs, e, h1, h2⟩ := ro_lst (H0 := H) n h.1.ro
    cases e
    obtain ⟨p, ys, e, k1, k2⟩ := ro_lst (H0 := H) n h.2.ro
    cases e
    obtain ⟨T, w, z, rfl, hT, rfl, hy, hz⟩ := hy
    obtain ⟨u, v, hu, hv, rfl⟩ := zip_get hi
    obtain ⟨y1, h3, h4⟩ := h2.get hu
    obtain ⟨y2, k3, k4⟩ := k2.get hv
    rw [hy xs (SqL.of h1)] at h3
    rw [hz ys (SqL.of k1)] at k3
    cases h3
    cases k3
    obtain ⟨q1, q2, q3, q4⟩ := new_tup (xs := [w, z]) n st hT (.cons h4 (.cons k4 .nil))
    exact ⟨_, q1, q2, q3, q4⟩
theorem jw_zipT {all : Bool} {a b : Addr} {ds es : List D} : JW c (RZ.ItzT K a b) ((ds.zip es).map fun q => .tup [q.1, q.2]) (fun G H => Rdy c all (.ref a) (.tup ds) G H ∧ Rdy c all (.ref b) (.tup es) G H) where
  go := fun i G H d n h hi => by
    obtain ⟨p, xs, e, h1, _, h2⟩ := ro_tup (H0 := H) n h.1.ro
    cases e
    obtain ⟨p, ys, e, k1, _, k2⟩ := ro_tup (H0 := H) n h.2.ro
    cases e
    obtain ⟨u, w, hu, hw, _⟩ := zip_get hi
    obtain ⟨x, h3, _⟩ := h2.get hu
    obtain ⟨y, k3, _⟩ := k2.get hw
    exact ⟨xs, ys, x, y, SqT.of h1, SqT.of k1, h3, k3⟩
  stop := fun i G H n h hi => by
    obtain ⟨p, xs, e, h1, _, h2⟩ := ro_tup (H0 := H) n h.1.ro
    cases e
    obtain ⟨p, ys, e, k1, _, k2⟩ := ro_tup (H0 := H) n h.2.ro
    cases e
    exact ⟨xs, ys, SqT.of h1, SqT.of k1, by rw [h2.len, k2.len]; exact zip_len hi⟩
  yl := fun i G H x H' d s n t st h hi hy => by
    obtain ⟨p, xs, e, h1, _, h2⟩ := ro_tup (H0 := H) n h.1.ro
    cases e
    obtain ⟨p, ys, e, k1, _, k2⟩ := ro_tup (H0 := H) n h.2.ro
    cases e
    obtain ⟨T, w, z, rfl, hT, rfl, hy, hz⟩ := hy
    obtain ⟨u, v, hu, hv, rfl⟩ := zip_get hi
    obtain ⟨y1, h3, h4⟩ := h2.get hu
    obtain ⟨y2, k3, k4⟩ := k2.get hv
    rw [hy xs (SqT.of h1)] at h3
    rw [hz ys (SqT.of k1)] at k3
    cases h3
    cases k3
    obtain ⟨q1, q2, q3, q4⟩ := new_tup (xs := [w, z]) n st hT (.cons h4 (.cons k4 .nil))
    exact ⟨_, q1, q2, q3, q4⟩
theorem stab_two {all : Bool} {A B : Hp → Hp → Prop} (h1 : Stab c all A) (h2 : Stab c all B) : Stab c all (fun G H => A G H ∧ B G H) := fun G H G' H' a b q => ⟨h1 G H G' H' a b q.1, h2 G H G' H' a b q.2⟩
theorem stab_true {all : Bool} : Stab c all (fun _ _ => True) := fun _ _ _ _ _ _ _ => trivial
end
/-! ### the rules -/
section
variable {Γ : Gm} {c : Cg} {cf : Nat → List D → DS → Out D} {ar : Nat → Nat} {k : Nat} {N : List Str} {sc : Scope} {E0 : XK} {X : Cx} {ρ : Env} {m m' : Md} {o o2 o3 : DS → Out D} {x y z tg : PySem.Expr} {pos : Pos} {all : Bool}
theorem pi_imp {t t' : TI} (h : PI X tg x t) (hi : ∀ σ H Q, t' σ H Q → t σ H Q) : PI X tg x t' := ⟨fun pins s σ H Q I q => h.run pins s σ H Q I (hi σ H Q q)⟩
def iSeq (K : PySem.W.Frag) (tl : TE) : TI := fun σ H R => tl σ H fun x H1 => ∃ a, x = .ref a ∧ (((∃ xs, SqL K H1 a xs) ∧ R (Itl K a) H1) ∨ ((∃ xs, SqT K H1 a xs) ∧ R (Itt K a) H1))
theorem pi_seq {l : PySem.Expr} {tl : TE} (hl : PE X l tl) : PI X tg l (iSeq X.K tl) := by
  refine ⟨fun pn s0 st0 H0 R0 I0 hw => ?_⟩
  refine thn (hl.run pn s0 st0 H0 _ I0 hw) fun u0 s1 ⟨x0, H1, I1, r1, q1⟩ => ?_
  obtain ⟨a, e, q⟩ := q1
  subst e
  cases r1
  have fin : ∀ b ∈ [s1.heap.objs.size], FpOk X pn H1 b := fun b hb => by
    (have e : b = s1.heap.objs.size := by simpa using hb)
    subst e
    (exact I1.fpOk (Nat.le_refl _) (I1.hok.fresh (Nat.le_refl _)))
  rcases q with ⟨⟨xs, hq⟩, q⟩ | ⟨⟨xs, hq⟩, q⟩
  · obtain ⟨its, rv, p, hz⟩ := I1.list hq
    (refine wpAny_pyIter_list p.isList ?_)
    exact ⟨s1.heap.objs.size, [s1.heap.objs.size], _, _, H1, rfl, I1.kept (t' := s1.toks) fun b o e => Heap.get?_push_of_some _ e, turn_list a _, ⟨_, Heap.get?_push_size _ rfl, rfl, rfl⟩, fin, q⟩
  · obtain ⟨its, rv, p, hz⟩ := I1.tuple hq
    (refine wpAny_pyIter_tuple (show s1.heap.IsTuple a its.toArray from p) ?_)
    exact ⟨s1.heap.objs.size, [s1.heap.objs.size], _, _, H1, rfl, I1.kept (t' := s1.toks) fun b o e => Heap.get?_push_of_some _ e, turn_tuple a _, ⟨_, Heap.get?_push_size _ rfl, rfl, rfl⟩, fin, q⟩
theorem tI_seq {σ : L2.St} {H : Hp} {Q : L2.It → Hp → Prop} {f : D → DS → Out (List D)} {R : VK} (h : tI c E0 all ρ (fun ds => (o ds).bind f) σ H Q)
    (k : ∀ G1 H1 x d ds1, EI c.toCf G1 σ ρ H1 ds1 → RO c.toCf m' H G1 H1 x d → PostG c E0 (RI c.toCf all) G1 H1 (f d ds1) Q → R x H1) : tE c E0 m' ρ o σ H R := by
  obtain ⟨G, ds, e, h⟩ := h
  exact ⟨G, ds, e, postG_seq (mono_ri _ all) e h fun G1 H1 x d ds1 e1 _ r p => k G1 H1 x d ds1 e1 r p⟩
theorem ri_ok {G H : Hp} {σ : L2.St} {ds : DS} {items : List D} {Q : L2.It → Hp → Prop} {J : L2.It} {Cd : Hp → Hp → Prop} (p : PostG c E0 (RI c.toCf all) G H (.ok items ds) Q) (e : EI c.toCf G σ ρ H ds) (w : JW c.toCf J items Cd) (s : Stab c.toCf all Cd) (h : Cd G H) : Q J H :=
  p G H J e.on (Stp.refl _ _ _) e.st ⟨Cd, w, s, h⟩
theorem i_l {a : E} (ha : PE X x (tE c E0 (aM all) ρ (ev Γ cf a ρ))) : PI X tg x (tI c E0 all ρ (itM Γ cf (.l a) ρ)) := pi_imp (pi_seq ha) fun σ H Q h => by
  refine tI_seq (f := fun x s => (match x with
    | .lst ds => .ok ds s
    | .tup ds => .ok ds s
    | _ => .no)) h fun G1 H1 v d ds1 e1 r1 p1 => ?_
  cases d with
  | lst ds =>
    have q := rdy_of r1
    obtain ⟨a', xs, rfl, h1, h2⟩ := ro_lst (H0 := H1) e1.on q.ro
    exact ⟨a', rfl, .inl ⟨⟨xs, SqL.of h1⟩, ri_ok p1 e1 jw_list stab_rdy q⟩⟩
  | tup ds =>
    have q := rdy_of r1
    obtain ⟨a', xs, rfl, h1, _, h2⟩ := ro_tup (H0 := H1) e1.on q.ro
    exact ⟨a', rfl, .inr ⟨⟨xs, SqT.of h1⟩, ri_ok p1 e1 jw_tup stab_rdy q⟩⟩
  | _ => exact p1.elim
theorem i_s {a : E} (ha : PE X x (tE c E0 .rd ρ (ev Γ cf a ρ))) : PI X tg x (tI c E0 all ρ (itM Γ cf (.s a) ρ)) := pi_imp (pi_str ha) fun σ H Q h => by
  refine tI_seq (f := fun x s => (match x with
    | .str z => .ok (strSigns z) s
    | _ => .no)) h fun G1 H1 v d ds1 e1 r1 p1 => ?_
  cases d with
  | str z => exact ⟨z, ro_str r1, ri_ok p1 e1 jw_str stab_true trivial⟩
  | _ => exact p1.elim
theorem pa_one {te : TE} (h : PE X x te) (hs : noStar x = true) : PA X [x] (fun σ H Q => te σ H fun v H' => Q [v] H') := pa_imp (pa_cons h pa_nil (star_cons hs)) fun σ H Q h => h
theorem pa_two {te tf : TE} (h : PE X x te) (h2 : PE X y tf) (hs : noStar x = true) (hs2 : noStar y = true) : PA X [x, y] (fun σ H Q => te σ H fun v H' => tf σ H' fun u H'' => Q [v, u] H'') := pa_imp (pa_cons h (pa_cons h2 pa_nil (star_cons hs2)) (star_cons hs)) fun σ H Q h => h
theorem star1 (hs : noStar x = true) : starEach [x] X.env = [(false, eval x X.env)] := star_cons hs
theorem i_r1 {a : E} {n : Str} {p : Pos} (hX : CxOk Γ c cf ar k N sc E0 X) (en : n = "range") (hf : freeB Γ sc n = true) (hs : noStar x = true) (ha : PE X x (tE c E0 .rd ρ (ev Γ cf a ρ))) : PI X tg (.Call (.Name n p) [x] [] pos) (tI c E0 all ρ (itM Γ cf (.r1 a) ρ)) := by
  subst en
  obtain ⟨g1, _, g3, _⟩ := free_of hX hf
  refine pi_imp (pi_range1 g1 g3 (pa_one ha hs) (star1 hs)) fun σ H Q h => ?_
  refine tI_seq (f := fun x s => (match x with
    | .int n => if -(2 ^ 62) ≤ n ∧ n < lim then .ok (rangeD 0 n.toNat) s else .no
    | _ => .no)) h fun G1 H1 v d ds1 e1 r1 p1 => ?_
  cases d with
  | int n =>
    have p1 : PostG c E0 (RI c.toCf all) G1 H1 (if -(2 ^ 62) ≤ n ∧ n < lim then .ok (rangeD 0 n.toNat) ds1 else .no) Q := p1
    by_cases hn : -(2 ^ 62) ≤ n ∧ n < lim
    · rw [if_pos hn] at p1
      have := hn.2
      simp only [lim] at this
      exact ⟨n, by rw [ro_int r1], hn.1, by omega, ri_ok p1 e1 jw_range stab_true trivial⟩
    · rw [if_neg hn] at p1; exact p1.elim
  | _ => exact p1.elim
theorem bind_i {σ : L2.St} {H : Hp} {Q : L2.It → Hp → Prop} {f : D → D → DS → Out (List D)} {R : V → V → Hp → Prop} (h : tI c E0 all ρ (fun ds => (o ds).bind fun x s => (o2 s).bind fun y s => f x y s) σ H Q)
    (k : ∀ G2 H2 x y dx dy ds2, EI c.toCf G2 σ ρ H2 ds2 → Rdy c.toCf all x dx G2 H2 → Rdy c.toCf all y dy G2 H2 → PostG c E0 (RI c.toCf all) G2 H2 (f dx dy ds2) Q → R x y H2) :
    tE c E0 (aM all) ρ o σ H (fun x H1 => tE c E0 (aM all) ρ o2 σ H1 (fun y H2 => R x y H2)) :=
  tI_seq h fun G1 H1 x dx ds1 e1 r1 p1 => ⟨G1, ds1, e1, postG_seq (mono_ri _ all) e1 p1 fun G2 H2 y dy ds2 e2 s2 r2 p2 => k G2 H2 x y dx dy ds2 e2 (by
    have q := rdy_of r1
    exact stab_rdy G1 H1 G2 H2 (fun _ => s2.ex) (fun _ => s2) q) (rdy_of r2) p2⟩
theorem i_r2 {a b : E} {n : Str} {p : Pos} (hX : CxOk Γ c cf ar k N sc E0 X) (en : n = "range") (hf : freeB Γ sc n = true) (hs : noStar x = true) (hs2 : noStar y = true) (ha : PE X x (tE c E0 .rd ρ (ev Γ cf a ρ))) (hb : PE X y (tE c E0 .rd ρ (ev Γ cf b ρ))) :
    PI X tg (.Call (.Name n p) [x, y] [] pos) (tI c E0 all ρ (itM Γ cf (.r2 a b) ρ)) := by
  subst en
  obtain ⟨g1, _, g3, _⟩ := free_of hX hf
  refine pi_imp (pi_range2 g1 g3 (pa_two ha hb hs hs2) (by rw [star_cons hs, star1 hs2]) (star1 hs2)) fun σ H Q h => ?_
  refine tI_seq (f := fun x s => (ev Γ cf b ρ s).bind fun y s => (match x, y with
    | .int m, .int n => if -(2 ^ 62) ≤ m ∧ m < 2 ^ 62 ∧ -(2 ^ 62) ≤ n ∧ n < 2 ^ 62 ∧ n - m < lim then .ok (rangeD m (n - m).toNat) s else .no
    | _, _ => .no)) (R := fun v H' => tE c E0 .rd ρ (ev Γ cf b ρ) σ H' fun u H'' => ∃ i j : Int, [v, u] = [V.int i, V.int j] ∧ (-(2 ^ 62) ≤ i ∧ i < 2 ^ 62 ∧ -(2 ^ 62) ≤ j ∧ j < 2 ^ 62) ∧ Q (Itr i (j - i).toNat) H'') h fun G1 H1 v dx ds1 e1 r1 p1 => ?_
  refine ⟨G1, ds1, e1, postG_seq (R := fun u H'' => ∃ i j : Int, [v, u] = [V.int i, V.int j] ∧ (-(2 ^ 62) ≤ i ∧ i < 2 ^ 62 ∧ -(2 ^ 62) ≤ j ∧ j < 2 ^ 62) ∧ Q (Itr i (j - i).toNat) H'') (mono_ri _ all) e1 p1 fun G2 H2 u dy ds2 e2 s2 r2 p2 => ?_⟩
  cases dx with
  | int i =>
    cases dy with
    | int j =>
      have p2 : PostG c E0 (RI c.toCf all) G2 H2 (if -(2 ^ 62) ≤ i ∧ i < 2 ^ 62 ∧ -(2 ^ 62) ≤ j ∧ j < 2 ^ 62 ∧ j - i < lim then .ok (rangeD i (j - i).toNat) ds2 else .no) Q := p2
      by_cases hn : -(2 ^ 62) ≤ i ∧ i < 2 ^ 62 ∧ -(2 ^ 62) ≤ j ∧ j < 2 ^ 62 ∧ j - i < lim
      · rw [if_pos hn] at p2
        exact ⟨i, j, by rw [ro_int r1, ro_int r2], ⟨hn.1, hn.2.1, hn.2.2.1, hn.2.2.2.1⟩, ri_ok p2 e2 jw_range stab_true trivial⟩
      · rw [if_neg hn] at p2; exact p2.elim
    | _ => exact p2.elim
  | _ => exact p2.elim
theorem i_en {a : E} {n : Str} {p tpos : Pos} {elts : List PySem.Expr} {kk : Nat} (hX : CxOk Γ c cf ar k N sc E0 X) (en : n = "enumerate") (hf : freeB Γ sc n = true) (hs : noStar x = true) (ha : PE X x (tE c E0 (aM all) ρ (ev Γ cf a ρ))) :
    PI X (.Tuple elts kk tpos) (.Call (.Name n p) [x] [] pos) (tI c E0 all ρ (itM Γ cf (.en a) ρ)) := by
  subst en
  obtain ⟨g1, _, g3, _⟩ := free_of hX hf
  refine pi_imp (pi_enum g1 g3 (pa_one ha hs) (star1 hs)) fun σ H Q h => ?_
  refine tI_seq (f := fun x s => (match x with
    | .lst ds => .ok (enumD 0 ds) s
    | _ => .no)) h fun G1 H1 v d ds1 e1 r1 p1 => ?_
  cases d with
  | lst ds =>
    have q := rdy_of r1
    obtain ⟨a', xs, rfl, h1, h2⟩ := ro_lst (H0 := H1) e1.on q.ro
    exact ⟨a', xs, rfl, SqL.of h1, ri_ok p1 e1 jw_enum stab_rdy q⟩
  | _ => exact p1.elim
theorem i_zp {a b : E} {n : Str} {p tpos : Pos} {elts : List PySem.Expr} {kk : Nat} (hX : CxOk Γ c cf ar k N sc E0 X) (en : n = "zip") (hf : freeB Γ sc n = true) (hs : noStar x = true) (hs2 : noStar y = true) (ha : PE X x (tE c E0 (aM all) ρ (ev Γ cf a ρ))) (hb : PE X y (tE c E0 (aM all) ρ (ev Γ cf b ρ))) :
    PI X (.Tuple elts kk tpos) (.Call (.Name n p) [x, y] [] pos) (tI c E0 all ρ (itM Γ cf (.zp a b) ρ)) := by
  subst en
  obtain ⟨g1, _, g3, _⟩ := free_of hX hf
  refine pi_imp (RZ.pi_zipA g1 g3 (pa_two ha hb hs hs2) (by rw [star_cons hs]) (star_plain fun e he => by
    simp only [List.mem_cons, List.mem_nil_iff, or_false] at he
    subst he; exact hs2)) fun σ H Q h => ?_
  refine bind_i (f := fun x y s => (match x, y with
    | .lst ds, .lst es => .ok ((ds.zip es).map fun q => .tup [q.1, q.2]) s
    | .tup ds, .tup es => .ok ((ds.zip es).map fun q => .tup [q.1, q.2]) s
    | _, _ => .no)) h fun G2 H2 v u dx dy ds2 e2 r1 r2 p2 => ?_
  cases dx with
  | lst ds =>
    cases dy with
    | lst es =>
      obtain ⟨a', xs, rfl, h1, h2⟩ := ro_lst (H0 := H2) e2.on r1.ro
      obtain ⟨b', ys, rfl, k1, k2⟩ := ro_lst (H0 := H2) e2.on r2.ro
      exact ⟨a', b', xs, ys, rfl, .inl ⟨SqL.of h1, SqL.of k1, ri_ok p2 e2 jw_zip (stab_two stab_rdy stab_rdy) ⟨r1, r2⟩⟩⟩
    | _ => exact p2.elim
  | tup ds =>
    cases dy with
    | tup es =>
      obtain ⟨a', xs, rfl, h1, _, h2⟩ := ro_tup (H0 := H2) e2.on r1.ro
      obtain ⟨b', ys, rfl, k1, _, k2⟩ := ro_tup (H0 := H2) e2.on r2.ro
      exact ⟨a', b', xs, ys, rfl, .inr ⟨SqT.of h1, SqT.of k1, ri_ok p2 e2 jw_zipT (stab_two stab_rdy stab_rdy) ⟨r1, r2⟩⟩⟩
    | _ => exact p2.elim
  | _ => exact p2.elim
end
end IR
end
section
set_option Elab.async false
set_option linter.all false
set_option maxRecDepth 100000
set_option maxHeartbeats 4100000
namespace IR
open L2 PySem PySem.Spec PyProof.Rows
/-! ## targets -/
theorem SlOk.other {c : Cf} {G H : Hp} {σ : L2.St} {j i : Nat} {w : Option V} {x : Slot} (h : SlOk c G σ H j x) (ne : i ≠ j) : SlOk c G (σ.set i w) H j x := by
  cases x with
  | no => trivial
  | sh d =>
    obtain ⟨v, h1, h2⟩ := h
    exact ⟨v, by rw [List.getElem?_set_ne ne]; exact h1, h2⟩
  | own d =>
    obtain ⟨p, h1, h2⟩ := h
    exact ⟨p, by rw [List.getElem?_set_ne ne]; exact h1, h2⟩
theorem EI.put {c : Cf} {G H : Hp} {σ : L2.St} {ρ : Env} {ds : DS} {i : Nat} {w : Option V} {x : Slot} (e : EI c G σ ρ H ds) (h : i < σ.length → SlOk c G (σ.set i w) H i x) : EI c G (σ.set i w) (ρ.set i x) H ds := by
  refine ⟨by rw [List.length_set, List.length_set]; exact e.ln, e.on, e.tn, e.st, fun j y hy => ?_⟩
  by_cases ne : i = j
  · subst ne
    have hl : i < ρ.length := by
      rw [List.getElem?_eq_some_iff] at hy
      have := hy.1
      rwa [List.length_set] at this
    rw [List.getElem?_set_self hl] at hy
    cases hy
    exact h (by rw [← e.ln]; exact hl)
  · rw [List.getElem?_set_ne ne] at hy
    exact (e.sl j y hy).other ne
theorem EI.sh {c : Cf} {G H : Hp} {σ : L2.St} {ρ : Env} {ds : DS} {i : Nat} {v : V} {d : D} (e : EI c G σ ρ H ds) (r : Rep c G v d) : EI c G (σ.set i (some v)) (ρ.set i (.sh d)) H ds :=
  e.put fun hl => ⟨v, by rw [List.getElem?_set_self hl], r⟩
theorem EI.wipe {c : Cf} {G H : Hp} {σ : L2.St} {ρ : Env} {ds : DS} (e : EI c G σ ρ H ds) : ∀ (vs : List Nat), EI c G (wipe σ vs) (wipeE ρ vs) H ds
  | [] => e
  | v :: vs => (e.wipe vs).put fun _ => trivial
theorem wipe_get (σ : L2.St) (i : Nat) : ∀ vs : List Nat, (wipe σ vs)[i]? = if i ∈ vs then (σ[i]?).map (fun _ => none) else σ[i]?
  | [] => by simp [wipe]
  | v :: vs => by
    unfold wipe
    by_cases hi : v = i
    · subst hi
      rw [List.getElem?_set]
      simp only [if_true, List.mem_cons, true_or, wipe_length]
      by_cases hl : v < σ.length
      · rw [List.getElem?_eq_getElem hl]; simp [hl]
      · rw [List.getElem?_eq_none (by omega)]; simp [hl]
    · rw [List.getElem?_set_ne hi, wipe_get σ i vs]
      have : (i ∈ v :: vs) ↔ i ∈ vs := by simp [Ne.symm hi]
      simp only [this]
theorem wipe_set (σ : L2.St) {i : Nat} {w : Option V} {vs : List Nat} (h : i ∈ vs) : wipe (σ.set i w) vs = wipe σ vs := by
  apply List.ext_getElem?
  intro j
  rw [wipe_get, wipe_get]
  by_cases hj : j ∈ vs
  · simp only [hj, if_true]
    rw [List.getElem?_set]
    by_cases e : i = j
    · subst e
      by_cases hl : i < σ.length
      · rw [List.getElem?_eq_getElem hl]; simp [hl]
      · rw [List.getElem?_eq_none (by omega)]; simp [hl]
    · simp [e]
  · have ne : i ≠ j := fun e => hj (e ▸ h)
    simp only [hj, if_false]
    rw [List.getElem?_set_ne ne]
theorem wipe_idem (σ : L2.St) (vs : List Nat) : wipe (wipe σ vs) vs = wipe σ vs := by
  apply List.ext_getElem?
  intro j
  rw [wipe_get, wipe_get]
  by_cases hj : j ∈ vs
  · simp only [hj, if_true]
    cases σ[j]? <;> rfl
  · simp only [hj, if_false]
def Pt.len : Pt → Nat
  | .cons _ r => r.len + 1
  | _ => 0
mutual
def tG (K : PySem.W.Frag) : Pt → TG
  | .n i => gName i
  | .t ps => gTup K ps.len (tGs K ps)
  | .nil => fun _ _ _ _ => False
  | .cons _ _ => fun _ _ _ _ => False
def tGs (K : PySem.W.Frag) : Pt → TGs
  | .nil => gNil
  | .cons p r => gCons (tG K p) (tGs K r)
  | .n _ => fun _ _ _ _ => False
  | .t _ => fun _ _ _ _ => False
end
def LocOk (sc : Scope) (X : Cx) : Prop := ∀ x, locB sc x = true → L2.Loc X.env.scope x ∧ (X.fn x = true ∨ X.env.scope.names.lookup x = some .local)
theorem each_cons {e : PySem.Expr} {es : List PySem.Expr} {env : PySem.Env} (h : noStar e = true) : assignEach (e :: es) env = (false, assign e env) :: assignEach es env := by
  cases e <;> first | rfl | (simp [noStar] at h)
section
variable {N : List Str} {sc : Scope} {X : Cx}
mutual
theorem pg_pt (hN : X.N = N) (nd : N.Nodup) (hc : X.calm = true) (hl : LocOk sc X) : ∀ (p : Pt) {e : PySem.Expr}, ptB N sc p e = true → PG X e (tG X.K p)
  | .n i, e, h => by
    cases e <;> first | (simp [ptB] at h; done) | skip
    simp only [ptB, Bool.and_eq_true] at h
    obtain ⟨h1, h2⟩ := h
    obtain ⟨q1, q2⟩ := hl _ h2
    show PG X _ (tG X.K (.n i))
    unfold tG
    exact pg_name (by rw [hN]; exact nd) (by rw [hN]; exact of_decide_eq_true h1) q1 q2
  | .t ps, e, h => by
    cases e <;> first | (simp [ptB] at h; done) | skip
    rename_i es j tp
    have h : ptB.ptsB N sc ps es = true := by simpa only [ptB] using h
    obtain ⟨q1, q2, q3⟩ := pgs_pt hN nd hc hl ps h
    unfold tG
    exact pg_tup hc q1 q2 q3
  | .nil, e, h => by cases e <;> simp [ptB] at h
  | .cons _ _, e, h => by cases e <;> simp [ptB] at h
theorem pgs_pt (hN : X.N = N) (nd : N.Nodup) (hc : X.calm = true) (hl : LocOk sc X) : ∀ (p : Pt) {es : List PySem.Expr}, ptB.ptsB N sc p es = true → PGs X es (tGs X.K p) ∧ (assignEach es X.env).length = p.len ∧ (assignEach es X.env).findIdx? (·.1) = none
  | .n _, es, h => by cases es <;> simp [ptB.ptsB] at h
  | .t _, es, h => by cases es <;> simp [ptB.ptsB] at h
  | .nil, es, h => by
    cases es with
    | nil => unfold tGs; exact ⟨pgs_nil, rfl, rfl⟩
    | cons _ _ => simp [ptB.ptsB] at h
  | .cons p r, es, h => by
    cases es with
    | nil => simp [ptB.ptsB] at h
    | cons e es =>
      simp only [ptB.ptsB, Bool.and_eq_true] at h
      obtain ⟨⟨h1, h2⟩, h3⟩ := h
      obtain ⟨q1, q2, q3⟩ := pgs_pt hN nd hc hl r h3
      unfold tGs
      refine ⟨pgs_cons (pg_pt hN nd hc hl p h1) q1 (by rw [each_cons h2]; rfl), ?_, ?_⟩
      · rw [each_cons h2, List.length_cons, q2]; rfl
      · rw [each_cons h2, List.findIdx?_cons, q3]; rfl
end
end
section
variable {c : Cf} {K : PySem.W.Frag} {G H : Hp} {ds : DS}
/-- σ2: σ but for the slots at vs -/
def Agree (vs : List Nat) (σ σ2 : L2.St) : Prop := ∀ own : List Nat, (∀ i ∈ vs, i ∈ own) → wipe σ2 own = wipe σ own
theorem Agree.refl (vs : List Nat) (σ : L2.St) : Agree vs σ σ := fun _ _ => rfl
mutual
theorem tG_wp : ∀ (p : Pt) {σ : L2.St} {ρ ρ1 : Env} {x : V} {d : D} {Q : L2.St → Hp → Prop}, EI c G σ ρ H ds → Rep c G x d → asgP p d ρ = some ρ1 → (∀ σ2, Agree p.slots σ σ2 → EI c G σ2 ρ1 H ds → Q σ2 H) → tG K p x σ H Q
  | .n i, σ, ρ, ρ1, x, d, Q, e, r, h, k => by
    simp only [asgP, Option.some.injEq] at h
    subst h
    unfold tG
    exact k _ (fun own ho => wipe_set σ (ho i (by simp [Pt.slots]))) (e.sh r)
  | .t ps, σ, ρ, ρ1, x, d, Q, e, r, h, k => by
    cases d with
    | tup dd =>
      simp only [asgP] at h
      obtain ⟨a, xs, rfl, h1, _, h2⟩ := ro_tup (H0 := H) e.on (.inl r)
      unfold tG
      refine ⟨a, xs, rfl, SqT.of h1, ?_, tGs_wp ps e h2 h fun σ2 a2 e2 => k σ2 (fun own ho => a2 own fun i hi => ho i (by simpa [Pt.slots] using hi)) e2⟩
      rw [h2.len]
      exact asgPs_len ps h
    | _ => simp [asgP] at h
  | .nil, _, _, _, _, _, _, _, _, h, _ => by simp [asgP] at h
  | .cons _ _, _, _, _, _, _, _, _, _, h, _ => by simp [asgP] at h
theorem tGs_wp : ∀ (p : Pt) {σ : L2.St} {ρ ρ1 : Env} {xs : List V} {dd : List D} {Q : L2.St → Hp → Prop}, EI c G σ ρ H ds → Reps c G xs dd → asgP.asgPs p dd ρ = some ρ1 → (∀ σ2, Agree p.slots σ σ2 → EI c G σ2 ρ1 H ds → Q σ2 H) → tGs K p xs σ H Q
  | .n _, _, _, _, _, dd, _, _, _, h, _ => by cases dd <;> simp [asgP.asgPs] at h
  | .t _, _, _, _, _, dd, _, _, _, h, _ => by cases dd <;> simp [asgP.asgPs] at h
  | .nil, σ, ρ, ρ1, xs, dd, Q, e, r, h, k => by
    cases r with
    | nil =>
      simp only [asgP.asgPs, Option.some.injEq] at h
      subst h
      unfold tGs
      exact ⟨rfl, k σ (Agree.refl _ _) e⟩
    | cons _ _ => simp [asgP.asgPs] at h
  | .cons p r, σ, ρ, ρ1, xs, dd, Q, e, rr, h, k => by
    cases rr with
    | nil => simp [asgP.asgPs] at h
    | cons q qs =>
      simp only [asgP.asgPs, Option.bind_eq_some_iff] at h
      obtain ⟨ρ2, h1, h2⟩ := h
      unfold tGs
      refine ⟨_, _, rfl, tG_wp p e q h1 fun σ2 a2 e2 => tGs_wp r e2 qs h2 fun σ3 a3 e3 => k σ3 (fun own ho => ?_) e3⟩
      rw [a3 own fun i hi => ho i (by simp [Pt.slots, hi]), a2 own fun i hi => ho i (by simp [Pt.slots, hi])]
theorem asgPs_len : ∀ (p : Pt) {dd : List D} {ρ ρ1 : Env}, asgP.asgPs p dd ρ = some ρ1 → dd.length = p.len
  | .n _, dd, _, _, h => by cases dd <;> simp [asgP.asgPs] at h
  | .t _, dd, _, _, h => by cases dd <;> simp [asgP.asgPs] at h
  | .nil, dd, _, _, h => by cases dd <;> first | rfl | simp [asgP.asgPs] at h
  | .cons p r, dd, _, _, h => by
    cases dd with
    | nil => simp [asgP.asgPs] at h
    | cons d dd =>
      simp only [asgP.asgPs, Option.bind_eq_some_iff] at h
      obtain ⟨ρ2, h1, h2⟩ := h
      rw [List.length_cons, asgPs_len r h2]; rfl
end
end
end IR
end
section
set_option Elab.async false
set_option linter.all false
set_option maxRecDepth 100000
set_option maxHeartbeats 4100000
namespace IR
open L2 PySem PySem.Spec PyProof.Rows
/-! A dict comprehension whose keys may be tuples: HandS.DictComp's rule (flat keys) turned; what began there is named in NOTES.md. -/
theorem dSetA {X : Cx} {A : Around} {pn : List (Addr × Obj)} {σ : L2.St} {H H' : Hp} {s : Shared} {E : Value → Shared → Prop} {a : Addr} {y v : V} {u r : Value} {Q : Unit → Shared → Prop} (hu : A.units + 1 < cLine) (I : Inv X pn σ H s) (g : DPut H a y v H')
    (ry : RelV y u) (rv : RelV v r) (h : ∀ s', Inv X pn σ H' s' → Q () s') : wpAny (model X.prog X.w) A (dictSet a u r) Q E s := by
  rcases g with ⟨kvs, k, e, rfl, l, rfl⟩ | ⟨kvs, k, b, e, rfl, eb, l, rfl⟩
  · obtain ⟨_, hd, vs, rel, dd⟩ := dk_of I.hok e
    have len := length_putK kvs k v
    refine wpAny_dictSet_pairs (hsz := by rw [← rel.length]; omega) (kV_is ry) dd fun h2 dd2 sb => h _ ?_
    exact d_write I (by rw [e]; trivial) sb (dd2.elim fun q z => ⟨q, z.choose_spec.choose_spec.1⟩) (dk_new (by omega) hd (rel.put k rv) dd2)
  · cases (show u = Value.ref b from ry)
    obtain ⟨_, hd, xs, rel, dd⟩ := dt_of I.hok e
    have len := length_putK kvs k v
    refine wpAny_dictSet_heap (hsz := by rw [← Paired.length rel]; omega) (show A.units < cLine by omega) (key_of I.hok eb) dd fun h2 dd2 sb => h _ ?_
    obtain ⟨q, es, ep, c1, c2, c3, c4, _, c5⟩ := dd2
    refine d_write I (by rw [e]; trivial) sb ⟨q, c1⟩ ⟨by omega, hd, _, (rel.put k eb rv).keeps fun c ys ec => ?_, q, es, ep, c1, c2, c3, c4, c5⟩
    (rw [upd_ne (ne_of ec e (fun z => nomatch z))])
    exact ec
section
variable {X : Cx}
def tDcA (o0 : HO) (wi : TI) (g : TG) (tt : TT) (tk tv : TE) (vs : List Nat) : TE := fun σ H Q => wi σ H fun J H1 => ∀ D, H1 D = none → ∃ W : Nat → Nat → Hp → Prop, (∃ m, W 0 m (upd H1 D o0)) ∧ ∀ i m H, W i m H →
  (J.stop i H ∧ Q (.ref D) H) ∨ (J.go i H ∧ ∃ Nx : Hp → Prop, (∀ H', Nx H' → ∃ m', m' < m ∧ W (i + 1) m' H') ∧
    ∀ x H', J.yld i H x H' → g x (wipe σ vs) H' fun σ2 H2 => wipe σ2 vs = wipe σ vs ∧ tt σ2 H2 fun b H3 =>
      if b = true then tk σ2 H3 fun y H4 => tv σ2 H4 fun z H5 => ∃ H6, DPut H5 D y z H6 ∧ Nx H6 else Nx H3)
theorem dcA_core {o0 : HO} (h0 : o0 = .dK [] ∨ o0 = .dT []) (hu : X.A.units + 1 < cLine) {pn : List (Addr × Obj)} {s : Shared} {σ : L2.St} {H : Hp} {Q : VK} {kx vx tg iter : PySem.Expr} {ifs : List PySem.Expr} {scope : Scope} {own : List (Str × Nat)} {pos pos' : Pos} {wi : TI} {g : TG} {tt : TT} {tk tv : TE} {use : Option (Value → Sem Unit)} {Qf : Value → Shared → Prop}
    (hcl : X.calm = true) (hnd : X.N.Nodup) (I : Inv X pn σ H s) (hit : PI X tg iter wi) (okb : BlkOk X.N X.env.scope scope own)
    (hg : ∀ (s : Shared) (H : Hp) (C : Addr) (cl : List (Str × Addr)) (fps : List Addr), PG (X.blk s H scope (compEnvC scope cl C X.env) fps) tg g) (ht : ∀ (s : Shared) (H : Hp) (C : Addr) (cl : List (Str × Addr)) (fps : List Addr), PTs (X.blk s H scope (compEnvC scope cl C X.env) fps) ifs tt)
    (hk : ∀ (s : Shared) (H : Hp) (C : Addr) (cl : List (Str × Addr)) (fps : List Addr), PE (X.blk s H scope (compEnvC scope cl C X.env) fps) kx tk)
    (he : ∀ (s : Shared) (H : Hp) (C : Addr) (cl : List (Str × Addr)) (fps : List Addr), PE (X.blk s H scope (compEnvC scope cl C X.env) fps) vx tv) (hs : ∀ x, foldedSetIterable iter X.env x = pure x)
    (h : tDcA o0 wi g tt tk tv (own.map (·.2)) σ H Q)
    (hRR : ∀ D0 C s' m H', Inv X pn σ H' s' → Q (.ref D0) H' → s'.heap.Ns C m → FpOk X pn H' C → compPost (model X.prog X.w) X.A X.xe use Qf (.ref D0) C (.ok .next) s') :
    wpAny (model X.prog X.w) X.A (comprehension (.DictComp kx vx [⟨tg, iter, ifs, 0⟩] scope pos) scope X.env pos' newDict false (eval iter X.env) use)
      Qf X.xe s := by
  have hfr : ∀ y ∈ scope.names, y.2 = .free → ∃ c, X.env.cells.lookup y.1 = some c := fun y hy e => by
    rcases okb.free y hy e with k | k
    · exact I.ok.has _ (.inl k)
    · exact I.ok.has _ (.inr k)
  refine wpAny_comprehension_free (use := use) rfl hs (closure_ok hfr) okb.kind (fun y hy e => by rw [okb.uniq y hy, e])
    (thn (hit.run pn s σ H _ I h) fun xv0 z1 hxx => thn hxx fun itw z2 h2 => ?_)
  obtain ⟨it, fps, tn0, J, B2, e, A2, Tn, w2, e2, q⟩ := h2
  subst e
  (refine wpAny_newObj_type (newEnv_comp ?_))
  generalize hDe : z2.heap.objs.size = D0
  have hDz : B2 D0 = none := A2.hok.fresh (Nat.le_of_eq hDe)
  obtain ⟨W, ⟨mm, ww⟩, trn⟩ := q D0 hDz
  -- the new list
  generalize hz3 : ({ z2 with heap := z2.heap.push { cls := .type "dict", data := .dict #[] } } : Shared) = z3
  have A3 : Inv X pn σ (upd B2 D0 o0) z3 := by
    rw [← hz3]
    refine A2.laid (t' := z2.toks) (fun b o e => Heap.get?_push_of_some _ e) (Nat.le_of_eq hDe) ?_
    rw [← hDe]
    rcases h0 with e0 | e0
    · rw [e0]; exact dk_empty z2.heap A2.big
    · rw [e0]; exact dt_empty z2.heap A2.big
  have hh3 : z3.heap = z2.heap.push { cls := .type "dict", data := .dict #[] } := by rw [← hz3]
  have szs : ∀ b ∈ fps, b < z2.heap.objs.size := fun b hb => by
    obtain ⟨o, e, _⟩ := Tn.obj _ _ w2 b hb
    exact Heap.lt_size e
  have e3 : ∀ b ∈ fps, FpOk X pn (upd B2 D0 o0) b ∧ b < z3.heap.objs.size := fun b hb => by
    have hlt := szs b hb
    refine ⟨⟨?_, (e2 b hb).2⟩, by rw [hh3, Heap.size_push]; exact Nat.lt_succ_of_lt hlt⟩
    rw [upd_ne (by rw [← hDe]; exact Nat.ne_of_lt hlt)]
    exact (e2 b hb).1
  have w3 : tn0 0 z3.heap := Tn.keep _ _ _ w2 fun b _ o e => by rw [hh3]; exact Heap.get?_push_of_some _ e
  have A4 := block_start A3 okb hnd e3
  have qg := hg z3 (upd B2 D0 o0) z3.heap.objs.size (cellsFrom (z3.heap.objs.size + 1) scope.names (cloFrom X.env.cells scope.names [])) fps
  have qt := ht z3 (upd B2 D0 o0) z3.heap.objs.size (cellsFrom (z3.heap.objs.size + 1) scope.names (cloFrom X.env.cells scope.names [])) fps
  have qk := hk z3 (upd B2 D0 o0) z3.heap.objs.size (cellsFrom (z3.heap.objs.size + 1) scope.names (cloFrom X.env.cells scope.names [])) fps
  have qe := he z3 (upd B2 D0 o0) z3.heap.objs.size (cellsFrom (z3.heap.objs.size + 1) scope.names (cloFrom X.env.cells scope.names [])) fps
  show codeAny _ _ (.compStart (.DictComp kx vx [⟨tg, iter, ifs, 0⟩] scope pos) 0 (.ref it) (.ref D0) (compEnvC scope (cellsFrom (z3.heap.objs.size + 1) scope.names (cloFrom X.env.cells scope.names [])) z3.heap.objs.size X.env)) (compPost (model X.prog X.w) X.A X.xe use Qf (.ref D0) z3.heap.objs.size) { z3 with heap := pushCells (z3.heap.push { cls := .type "dict", data := .dict #[] }) scope.names }
  have nfo : ∀ b ∈ fps, (upd B2 D0 o0) b = none := fun b hb => (e3 b hb).1.1
  generalize hcn : compEnvC scope (cellsFrom (z3.heap.objs.size + 1) scope.names (cloFrom X.env.cells scope.names [])) z3.heap.objs.size X.env = cn at A4 qg qt qk qe ⊢
  have cnl : cn.locals = z3.heap.objs.size := by subst hcn; rfl
  generalize hB3 : upd B2 D0 o0 = B3 at A3 A4 qg qt qk qe ww nfo e3
  generalize hz4 : ({ z3 with heap := pushCells (z3.heap.push { cls := .type "dict", data := .dict #[] }) scope.names } : Shared) = z4 at A4 ⊢
  have w4 : tn0 0 z4.heap := Tn.keep _ _ _ w3 fun b _ o e => by rw [← hz4]; exact pushCells_keeps _ _ _ _ (Heap.get?_push_of_some _ e)
  have sta : ∀ {σ' : L2.St} {H' : Hp} {s' : Shared}, Inv (X.blk z3 B3 scope cn fps) [] σ' H' s' → (∀ b ∈ fps, H' b = none) → ∀ b ∈ fps, FpOk (X.blk z3 B3 scope cn fps) [] H' b := fun {σ' H' s'} I' hnn b hb =>
    ⟨hnn b hb, (I'.ok.exf b hb).1, I'.ok.exfs b hb, .inl hb, fun x c e => (I'.ok.exf b hb).2 x c e, fun p hp => absurd (show p ∈ ([] : List (Addr × Obj)) ++ [] from hp) (by simp)⟩
  have lp : codeAny (model X.prog X.w) X.A (.compLoop (.DictComp kx vx [⟨tg, iter, ifs, 0⟩] scope pos) 0 (.ref it) (.ref D0) cn) (compPost (model X.prog X.w) X.A X.xe use Qf (.ref D0) z3.heap.objs.size) z4 := by
    refine compLoop_anyD (fun n s' => ∃ i H', Inv (X.blk z3 B3 scope cn fps) [] (wipe σ (own.map (·.2))) H' s' ∧ tn0 i s'.heap ∧ (∀ b ∈ fps, H' b = none) ∧ W i n H') ?_ mm ⟨0, B3, A4, w4, nfo, ww⟩
    rintro n z5 ⟨i, B5, A5, w5s, nn5, ww5⟩
    rcases trn i n B5 ww5 with ⟨spp, qq⟩ | ⟨gg, Nz, hNz, stp0⟩
    · have tdn := Tn.done (X.blk z3 B3 scope cn fps) rfl rfl rfl hcl i [] z5 _ B5 (fun _ _ => False) A5 (sta A5 nn5) w5s spp
      refine thnF tdn fun r z6 ⟨hr, A6⟩ => ?_
      subst hr
      -- back in the def's context
      have A7 : Inv X pn σ B5 z6 := A3.call' (ch := fps) A6.os A6.base A6.hok A6.bare fun b hb => ⟨(e3 b hb).1.2.2.2.1, (e3 b hb).1.2.1, (e3 b hb).1.2.2.2.2.1, (e3 b hb).1.2.2.2.2.2⟩
      have nCz : B5 z3.heap.objs.size = none := by
        have z : B5 cn.locals = none := A6.free
        rw [cnl] at z
        exact z
      obtain ⟨m, hnn, _⟩ := A6.loc
      have hnn : z6.heap.Ns cn.locals m := hnn
      rw [cnl] at hnn
      exact hRR D0 z3.heap.objs.size z6 m B5 A7 qq hnn (A3.fpOk (Nat.le_refl _) nCz)
    · have tit := Tn.item (X.blk z3 B3 scope cn fps) rfl rfl rfl hcl i [] z5 _ B5 (fun _ _ => False) A5 (sta A5 nn5) w5s gg
      refine thnF tit fun r z6 ⟨u, hr, h6⟩ => ?_
      subst hr
      refine thnF h6 fun _ z7 ⟨x, B7, A7, rr7, yy7, w7, nn7⟩ => ?_
      have I7' := A7.pinned (sta A7 nn7) (Tn.obj _ _ w7)
      refine thnF (qg.run _ z7 _ B7 x u _ I7' rr7 (stp0 x B7 yy7)) fun _ z8 ⟨σ8, B8, A8, hv8, qq8⟩ => ?_
      refine thnF (qt.run _ z8 σ8 B8 _ A8 qq8) fun b z9 ⟨B9, A9, qq9⟩ => ?_
      -- the turn's end
      have fn0 : ∀ {s' : Shared} {H' : Hp}, Inv (X.blk z3 B3 scope cn fps) ([] ++ pinsAt fps z7.heap) σ8 H' s' → Nz H' → ∃ m, m < n ∧ ∃ i H', Inv (X.blk z3 B3 scope cn fps) [] (wipe σ (own.map (·.2))) H' s' ∧ tn0 i s'.heap ∧ (∀ b ∈ fps, H' b = none) ∧ W i m H' := fun {s' H'} I' nz => by
        obtain ⟨m', hm, w'⟩ := hNz H' nz
        have pnn : ∀ b ∈ fps, ∀ o, z7.heap.get? b = some o → s'.heap.get? b = some o ∧ H' b = none := fun b hb o e =>
          let zz := I'.pin (b, o) (List.mem_append_right _ (List.mem_append_right _ (mem_pinsAt hb e)))
          ⟨zz.1, zz.2.1⟩
        have hl : (wipe σ (own.map (·.2))).length = σ8.length := by rw [← hv8, wipe_length]
        refine ⟨m', hm, i + 1, H', (I'.unpinned (pins := [])).weak hl (fun j v e => ?_), Tn.keep _ _ _ w7 fun b hb o e => (pnn b hb o e).1, fun b hb => ?_, w'⟩
        · rw [← hv8] at e
          exact (wipe_some e).1
        · obtain ⟨o, e, _⟩ := Tn.obj _ _ w7 b hb
          exact (pnn b hb o e).2
      cases b with
      | false =>
        simp only [Bool.false_eq_true, if_false] at qq9 ⊢
        exact fn0 A9 qq9
      | true =>
        simp only [if_true] at qq9 ⊢
        refine thnF (qk.run _ z9 σ8 B9 _ A9 qq9) fun z z10 ⟨yk, B10, A10, rr10, qq10⟩ => ?_
        refine thnF (qe.run _ z10 σ8 B10 _ A10 qq10) fun c2 z11 ⟨yv, B11, A11, rr11, B12, hput, nz⟩ => ?_
        exact dSetA (X := X.blk z3 B3 scope cn fps) hu A11 hput rr10 rr11 fun z12 A12 => fn0 A12 nz
  exact codeAny_compStart_dict lp (Tn.self X.A 0 _ _ _ w4 lp)
/-- as a value -/
theorem pe_dcA {o0 : HO} (h0 : o0 = .dK [] ∨ o0 = .dT []) (hu : X.A.units + 1 < cLine) {kx vx tg iter : PySem.Expr} {ifs : List PySem.Expr} {scope : Scope} {own : List (Str × Nat)} {pos : Pos} {wi : TI} {g : TG} {tt : TT} {tk tv : TE} (hcl : X.calm = true) (hnd : X.N.Nodup) (hit : PI X tg iter wi) (okb : BlkOk X.N X.env.scope scope own)
    (hg : ∀ (s : Shared) (H : Hp) (C : Addr) (cl : List (Str × Addr)) (fps : List Addr), PG (X.blk s H scope (compEnvC scope cl C X.env) fps) tg g) (ht : ∀ (s : Shared) (H : Hp) (C : Addr) (cl : List (Str × Addr)) (fps : List Addr), PTs (X.blk s H scope (compEnvC scope cl C X.env) fps) ifs tt)
    (hk : ∀ (s : Shared) (H : Hp) (C : Addr) (cl : List (Str × Addr)) (fps : List Addr), PE (X.blk s H scope (compEnvC scope cl C X.env) fps) kx tk)
    (he : ∀ (s : Shared) (H : Hp) (C : Addr) (cl : List (Str × Addr)) (fps : List Addr), PE (X.blk s H scope (compEnvC scope cl C X.env) fps) vx tv) (hs : ∀ x, foldedSetIterable iter X.env x = pure x := by intro _; rfl) :
    PE X (.DictComp kx vx [⟨tg, iter, ifs, 0⟩] scope pos) (tDcA o0 wi g tt tk tv (own.map (·.2))) := by
  refine ⟨fun pn s σ H Q I h => ?_⟩
  rw [arm_eval_DictComp]
  refine dcA_core h0 hu hcl hnd I hit okb hg ht hk he hs h fun D0 C s' m H' I' q hnn f => ⟨m, hnn, fun h'' sb => ?_⟩
  obtain ⟨f0, f1, e2, e3, f4, f5⟩ := f
  exact ⟨.ref D0, H', I'.turned (t' := s'.toks) (fun b o hb e => (sb.2 b hb).trans e) f0 f1 e3 f4 f5, rfl, q⟩
end
/-! ### a dict that grows -/
theorem RepK.put {c : Cf} {G : Hp} {k : Key} {v : V} {d : D} (r : Rep c G v d) : ∀ {kvs : List (Key × V)} {ds : List (Ky × D)}, RepK c G kvs ds → ((kvs.any fun p => decide (p.1 = k)) = (ds.any fun p => decide (p.1 = .k k))) ∧
    RepK c G (kvs.map fun p => if p.1 = k then (p.1, v) else p) (ds.map fun p => if p.1 = .k k then (p.1, d) else p) ∧ RepK c G (kvs ++ [(k, v)]) (ds ++ [(.k k, d)])
  | _, _, .nil => ⟨rfl, .nil, .cons r .nil⟩
  | _, _, @RepK.cons _ _ k' v' vs d' ds h q => by
    obtain ⟨h1, h2, h3⟩ := RepK.put r q
    refine ⟨?_, ?_, .cons h h3⟩
    · by_cases e : k' = k
      · simp [e]
      · simp [e, h1]
    · by_cases e : k' = k
      · subst e
        simp only [List.map_cons, if_true]
        exact .cons r h2
      · have e2 : ¬ (Ky.k k' = Ky.k k) := fun z => e (by cases z; rfl)
        simp only [List.map_cons, if_neg e, if_neg e2]
        exact .cons h h2
theorem RepT.put {c : Cf} {G : Hp} {k : List Key} {v : V} {d : D} (r : Rep c G v d) : ∀ {kvs : List (List Key × V)} {ds : List (Ky × D)}, RepT c G kvs ds → ((kvs.any fun p => decide (p.1 = k)) = (ds.any fun p => decide (p.1 = .t k))) ∧
    RepT c G (kvs.map fun p => if p.1 = k then (p.1, v) else p) (ds.map fun p => if p.1 = .t k then (p.1, d) else p) ∧ RepT c G (kvs ++ [(k, v)]) (ds ++ [(.t k, d)])
  | _, _, .nil => ⟨rfl, .nil, .cons r .nil⟩
  | _, _, @RepT.cons _ _ k' v' vs d' ds h q => by
    obtain ⟨h1, h2, h3⟩ := RepT.put r q
    refine ⟨?_, ?_, .cons h h3⟩
    · by_cases e : k' = k
      · simp [e]
      · simp [e, h1]
    · by_cases e : k' = k
      · subst e
        simp only [List.map_cons, if_true]
        exact .cons r h2
      · have e2 : ¬ (Ky.t k' = Ky.t k) := fun z => e (by cases z; rfl)
        simp only [List.map_cons, if_neg e, if_neg e2]
        exact .cons h h2
theorem RepK.len {c : Cf} {G : Hp} : ∀ {kvs : List (Key × V)} {ds : List (Ky × D)}, RepK c G kvs ds → kvs.length = ds.length
  | _, _, .nil => rfl
  | _, _, .cons _ r => (by simp [r.len])
theorem RepT.len {c : Cf} {G : Hp} : ∀ {kvs : List (List Key × V)} {ds : List (Ky × D)}, RepT c G kvs ds → kvs.length = ds.length
  | _, _, .nil => rfl
  | _, _, .cons _ r => (by simp [r.len])
theorem top_dput {c : Cf} {G H : Hp} {p : Addr} {t : Bool} {kvs : List (Ky × D)} {y : V} {ky : Ky} {v : V} {d : D} (h : Top c G H p (.dct t kvs)) (hk : KeyAt H y ky) (ht : kyKind ky = t) (hl : kvs.length < lim) (r : Rep c G v d) :
    ∃ o, DPut H p y v (upd H p o) ∧ Top c G (upd H p o) p (.dct t (dput kvs ky d)) := by
  cases hk with
  | k k =>
    have e : t = false := ht.symm
    subst e
    cases h with
    | dk h q =>
      obtain ⟨h1, h2, h3⟩ := q.put (k := k) r
      refine ⟨_, .k h (by rw [q.len, ← lim_eq]; exact hl), ?_⟩
      refine .dk upd_same ?_
      unfold putK dput
      rw [h1]
      split <;> assumption
  | @t b ks hb =>
    have e : t = true := ht.symm
    subst e
    cases h with
    | dt h q =>
      obtain ⟨h1, h2, h3⟩ := q.put (k := ks) r
      refine ⟨_, .t h hb (by rw [q.len, ← lim_eq]; exact hl), ?_⟩
      refine .dt upd_same ?_
      unfold putK dput
      rw [h1]
      split <;> assumption
end IR
end
section
set_option Elab.async false
set_option linter.all false
set_option maxRecDepth 100000
set_option maxHeartbeats 4100000
namespace IR
open L2 PySem PySem.Spec PyProof.Rows
section
variable {Γ : Gm} {c : Cg} {cf : Nat → List D → DS → Out D} {ar : Nat → Nat} {k : Nat} {N : List Str} {sc : Scope} {E0 : XK} {X : Cx} {ρ : Env} {m m' : Md} {o o2 o3 : DS → Out D} {x y z tg : PySem.Expr} {pos : Pos} {all : Bool}
theorem pe_ex {x : PySem.Expr} {t : Env → TE} (h : ∀ ρ, PE X x (t ρ)) : PE X x (fun σ H Q => ∃ ρ, t ρ σ H Q) := ⟨fun pins s σ H Q I ⟨ρ, q⟩ => (h ρ).run pins s σ H Q I q⟩
theorem pts_ex {xs : List PySem.Expr} {t : Env → TT} (h : ∀ ρ, PTs X xs (t ρ)) : PTs X xs (fun σ H Q => ∃ ρ, t ρ σ H Q) := ⟨fun pins s σ H Q I ⟨ρ, q⟩ => (h ρ).run pins s σ H Q I q⟩
theorem pt_ex {x : PySem.Expr} {t : Env → TT} (h : ∀ ρ, PT X x (t ρ)) : PT X x (fun σ H Q => ∃ ρ, t ρ σ H Q) := ⟨fun pins s σ H Q I ⟨ρ, q⟩ => (h ρ).run pins s σ H Q I q⟩
theorem pa_ex {xs : List PySem.Expr} {t : Env → TA} (h : ∀ ρ, PA X xs (t ρ)) : PA X xs (fun σ H Q => ∃ ρ, t ρ σ H Q) := ⟨fun pos pins s σ H Q I ⟨ρ, q⟩ => (h ρ).run pos pins s σ H Q I q⟩
theorem pi_ex {x : PySem.Expr} {t : Env → TI} (h : ∀ ρ, PI X tg x (t ρ)) : PI X tg x (fun σ H Q => ∃ ρ, t ρ σ H Q) := ⟨fun pins s σ H Q I ⟨ρ, q⟩ => (h ρ).run pins s σ H Q I q⟩
theorem pts_imp {xs : List PySem.Expr} {t t' : TT} (h : PTs X xs t) (hi : ∀ σ H Q, t' σ H Q → t σ H Q) : PTs X xs t' := ⟨fun pins s σ H Q I q => h.run pins s σ H Q I (hi σ H Q q)⟩
/-- no test -/
theorem pts_none : PTs X [] (tT c E0 ρ fun s => .ok (.bl true) s) := pts_imp pts_nil fun σ H Q ⟨G, ds, e, h⟩ => by
  obtain ⟨b, h1, h2⟩ := Post.same (m := .rd) h e (.bl true)
  cases h1
  exact h2
/-- the block's context -/
theorem blk_cx {scope : Scope} {s : Shared} {H : Hp} {C : Addr} {cl : List (Str × Addr)} {fp : List Addr} (hX : CxOk Γ c cf ar k N sc E0 X) : CxOk Γ c cf ar k N (relS scope sc) (fun _ _ _ => False) (X.blk s H scope (compEnvC scope cl C X.env) fp) where
  hN := hX.hN
  hsc := by rw [← hX.hsc]; rfl
  nd := hX.nd
  calm := hX.calm
  room := hX.room
  g := hX.g
  pass := passL
theorem blk_loc {scope : Scope} {s : Shared} {H : Hp} {C : Addr} {cl : List (Str × Addr)} {fp : List Addr} : LocOk scope (X.blk s H scope (compEnvC scope cl C X.env) fp) := fun n h => by
  unfold locB at h
  have q : ∀ kd, kd ≠ NameKind.free → scope.names.lookup n = some kd → (X.blk s H scope (compEnvC scope cl C X.env) fp).env.scope.names.lookup n = some kd := fun kd hk he => lookup_relS_keep (sc := X.env.scope) hk he
  split at h
  · rename_i e
    exact ⟨.inl (q _ (by decide) e), .inr (q _ (by decide) e)⟩
  · rename_i e
    refine ⟨.inr (q _ (by decide) e), .inl ?_⟩
    show (scope.names.lookup n == some NameKind.cell) = true
    rw [e]; rfl
  · cases h
theorem set_pure {iter : PySem.Expr} {env : PySem.Env} (h : (match iter with | .Set _ _ _ => false | _ => true) = true) : ∀ x, foldedSetIterable iter env x = pure x := by
  intro x
  cases iter <;> first | rfl | (simp at h)
abbrev cndO (Γ : Gm) (cf : Nat → List D → DS → Out D) (cnd : E) (ρ : Env) (s : DS) : Out D := if cnd.isNop then .ok (.bl true) s else ev Γ cf cnd ρ s
/-- a list comprehension -/
theorem lc_wp {own : List Nat} {elt cnd : E} {p : Pt} {it : It} (hp : ∀ i ∈ p.slots, i ∈ own) {σ : L2.St} {H : Hp} {Q : VK} (h : tE c E0 .fr ρ (ev Γ cf (.lc own elt p it cnd) ρ) σ H Q) :
    tLc (tI c E0 false ρ (itM Γ cf it ρ)) (tG X.K p) (fun σ H Q => ∃ ρ, tT c (fun _ _ _ => False) ρ (cndO Γ cf cnd ρ) σ H Q) (fun σ H Q => ∃ ρ, tE c (fun _ _ _ => False) .rep ρ (ev Γ cf elt ρ) σ H Q) own σ H Q := by
  obtain ⟨G, ds, e, h⟩ := h
  simp only [ev] at h
  refine ⟨G, ds, e, postG_seq (mono_ro .fr) e h fun G1 H1 J items ds1 e1 s1 r1 p1 => ?_⟩
  obtain ⟨Cd, jw, stab, cd⟩ := r1
  intro L0 hD
  have gD : G1 L0 = none := e1.on.free hD
  have tD : ¬ inT c.toCf L0 := fun t => e1.st.there t hD
  have p1 : Post c E0 .fr G1 H1 (if items.length ≤ lim then (lcM p (wipeE ρ own) (cndO Γ cf cnd) (ev Γ cf elt) items ds1).bind fun xs s => .ok (.lst xs) s else .no) Q := p1
  by_cases hlen : items.length ≤ lim
  rotate_left
  · rw [if_neg hlen] at p1; exact p1.elim
  rw [if_pos hlen] at p1
  refine ⟨fun i m Hc => ∃ G2 ds2 acc accD, On G2 Hc ∧ Stp c.toCf G1 H1 G2 Hc ∧ StO c.toCf Hc ds2 ∧ G2 L0 = none ∧ Hc L0 = some (.lst acc) ∧ Reps c.toCf G2 acc accD ∧ accD.length ≤ i ∧ m = items.length - i ∧
    Post c E0 .fr G1 H1 ((lcM p (wipeE ρ own) (cndO Γ cf cnd) (ev Γ cf elt) (items.drop i) ds2).bind fun xs s => .ok (.lst (accD ++ xs)) s) Q, ⟨_, G1, ds1, [], [], e1.on.alloc hD, Stp.alloc hD, e1.st.alloc hD, gD, upd_same, .nil, Nat.le_refl _, rfl, p1⟩, ?_⟩
  rintro i m Hc ⟨G2, ds2, acc, accD, n2, s2, t2, g2, hc, ra, ha, hm, p2⟩
  have e2 := (e1.wipe own).step n2 s2 t2
  have cd2 : Cd G2 Hc := stab G1 H1 G2 Hc (fun z => by cases z) (fun _ => s2) cd
  by_cases hi : items.length ≤ i
  · left
    refine ⟨jw.stop i G2 Hc n2 cd2 hi, ?_⟩
    rw [List.drop_eq_nil_of_le hi] at p2
    have p2 : Post c E0 .fr G1 H1 (.ok (.lst (accD ++ [])) ds2) Q := p2
    rw [List.append_nil] at p2
    exact p2 G2 Hc _ n2 s2 t2 (.inr ⟨L0, rfl, hD, g2, tD, .lst hc ra⟩)
  · right
    have hi' : i < items.length := by omega
    have hd : items[i]? = some items[i] := List.getElem?_eq_getElem hi'
    generalize items[i] = d at hd
    have hdrop : items.drop i = d :: items.drop (i + 1) := by
      rw [List.drop_eq_getElem_cons hi']
      have := List.getElem?_eq_getElem hi'
      rw [hd] at this
      rw [Option.some.inj this]
    rw [hdrop] at p2
    refine ⟨jw.go i G2 Hc d n2 cd2 hd, fun Hn => ∃ G3 ds3 acc3 accD3, On G3 Hn ∧ Stp c.toCf G1 H1 G3 Hn ∧ StO c.toCf Hn ds3 ∧ G3 L0 = none ∧ Hn L0 = some (.lst acc3) ∧ Reps c.toCf G3 acc3 accD3 ∧ accD3.length ≤ i + 1 ∧
      Post c E0 .fr G1 H1 ((lcM p (wipeE ρ own) (cndO Γ cf cnd) (ev Γ cf elt) (items.drop (i + 1)) ds3).bind fun xs s => .ok (.lst (accD3 ++ xs)) s) Q, fun Hn q => ?_, fun x H' hy => ?_⟩
    · obtain ⟨G3, ds3, acc3, accD3, q1, q2, q3, q4, q5, q6, q7, q8⟩ := q
      exact ⟨items.length - (i + 1), by omega, G3, ds3, acc3, accD3, q1, q2, q3, q4, q5, q6, q7, rfl, q8⟩
    · obtain ⟨G3, n3, s3, t3, rx⟩ := jw.yl i G2 Hc x H' d ds2 n2 e2.tn t2 cd2 hd hy
      have e3 := e2.step n3 s3 t3
      have s13 := s2.trans t2 s3
      have d3 : H' L0 = some (.lst acc) := (s3.kp L0 (by rw [hc]; simp) tD).trans hc
      have g3 : G3 L0 = none := s3.nw L0 (by rw [hc]; simp) g2
      have r3 := ra.mono s3.ex
      simp only [lcM] at p2
      cases hq : asgP p d (wipeE ρ own) with
      | none => rw [hq] at p2; exact p2.elim
      | some ρ1 =>
        rw [hq] at p2
        refine tG_wp p e3 rx hq fun σ2 a2 e4 => ⟨by rw [a2 own hp]; exact wipe_idem σ own, ρ1, G3, ds2, e4, ?_⟩
        show Post c (fun _ _ _ => False) .rd G3 H' ((cndO Γ cf cnd ρ1 ds2).bind boolO) _
        have p2 : Post c E0 .fr G1 H1 ((match cndO Γ cf cnd ρ1 ds2 with
          | .ok (.bl true) s1 => (match ev Γ cf elt ρ1 s1 with
            | .ok x s2 => (match lcM p (wipeE ρ own) (cndO Γ cf cnd) (ev Γ cf elt) (items.drop (i + 1)) s2 with
              | .ok xs s3 => .ok (x :: xs) s3
              | _ => .no)
            | _ => .no)
          | .ok (.bl false) s1 => lcM p (wipeE ρ own) (cndO Γ cf cnd) (ev Γ cf elt) (items.drop (i + 1)) s1
          | _ => .no : Out (List D)).bind fun xs s => .ok (.lst (accD ++ xs)) s) Q := p2
        cases hcn : cndO Γ cf cnd ρ1 ds2 with
        | no => rw [hcn] at p2; exact p2.elim
        | er _ _ _ => rw [hcn] at p2; exact p2.elim
        | ok db ds4 =>
          rw [hcn] at p2
          cases db <;> first | (exact p2.elim; done) | skip
          rename_i b
          intro G4 H4 v n4 s4 t4 r4
          refine ⟨b, ro_bl r4, ?_⟩
          have e5 := e4.step n4 s4 t4
          have s14 := s13.trans t3 s4
          have d4 : H4 L0 = some (.lst acc) := (s4.kp L0 (by rw [d3]; simp) tD).trans d3
          have g4 : G4 L0 = none := s4.nw L0 (by rw [d3]; simp) g3
          have r4' := r3.mono s4.ex
          cases b with
          | false =>
            (simp only [Bool.false_eq_true, if_false])
            exact ⟨G4, ds4, acc, accD, n4, s14, t4, g4, d4, r4', by omega, p2⟩
          | true =>
            simp only [if_true]
            refine ⟨ρ1, G4, ds4, e5, ?_⟩
            have p2 : Post c E0 .fr G1 H1 ((match ev Γ cf elt ρ1 ds4 with
              | .ok x s2 => (match lcM p (wipeE ρ own) (cndO Γ cf cnd) (ev Γ cf elt) (items.drop (i + 1)) s2 with
                | .ok xs s3 => .ok (x :: xs) s3
                | _ => .no)
              | _ => .no : Out (List D)).bind fun xs s => .ok (.lst (accD ++ xs)) s) Q := p2
            cases hel : ev Γ cf elt ρ1 ds4 with
            | no => rw [hel] at p2; exact p2.elim
            | er _ _ _ => rw [hel] at p2; exact p2.elim
            | ok dv ds5 =>
              rw [hel] at p2
              intro G5 H5 u n5 s5 t5 r5
              have d5 : H5 L0 = some (.lst acc) := (s5.kp L0 (by rw [d4]; simp) tD).trans d4
              have g5 : G5 L0 = none := s5.nw L0 (by rw [d4]; simp) g4
              have r5' := r4'.mono s5.ex
              have s15 := s14.trans t4 s5
              have hal : acc.length < sizeLine := by rw [ra.len, ← lim_eq]; omega
              refine ⟨acc, d5, hal, G5, ds5, acc ++ [u], accD ++ [dv], fun a ob ha => ?_, ⟨s15.ex, fun a ha ht => ?_, s15.nw⟩, fun s i he => ?_, g5, upd_same, r5'.append (.cons r5 .nil), by simp; omega, ?_⟩
              · have ne : a ≠ L0 := fun z => by rw [z, g5] at ha; cases ha
                rw [upd_ne ne]; exact n5 a ob ha
              · have ne : a ≠ L0 := fun z => ha (by rw [z]; exact hD)
                rw [upd_ne ne]; exact s15.kp a ha ht
              · obtain ⟨h1, h2, h3⟩ := t5 s i he
                have ns : s ≠ L0 := fun z => tD ⟨s, i, he, .inl z.symm⟩
                have ni : i ≠ L0 := fun z => tD ⟨s, i, he, .inr z.symm⟩
                exact ⟨h1, by rw [upd_ne ns]; exact h2, by rw [upd_ne ni]; exact h3⟩
              · have p2 : Post c E0 .fr G1 H1 ((match lcM p (wipeE ρ own) (cndO Γ cf cnd) (ev Γ cf elt) (items.drop (i + 1)) ds5 with
                  | .ok xs s3 => .ok (dv :: xs) s3
                  | _ => .no : Out (List D)).bind fun xs s => .ok (.lst (accD ++ xs)) s) Q := p2
                cases hr : lcM p (wipeE ρ own) (cndO Γ cf cnd) (ev Γ cf elt) (items.drop (i + 1)) ds5 with
                | no => rw [hr] at p2; exact p2.elim
                | er _ _ _ => rw [hr] at p2; exact p2.elim
                | ok xs s3 =>
                  rw [hr] at p2
                  have p2 : Post c E0 .fr G1 H1 (.ok (.lst (accD ++ dv :: xs)) s3) Q := p2
                  show Post c E0 .fr G1 H1 (.ok (.lst (accD ++ [dv] ++ xs)) s3) Q
                  rw [List.append_assoc]
                  exact p2
/-- a dict comprehension -/
theorem dc_wp {t : Bool} {own : List Nat} {kx vx cnd : E} {p : Pt} {it : It} (hp : ∀ i ∈ p.slots, i ∈ own) {σ : L2.St} {H : Hp} {Q : VK} (h : tE c E0 .fr ρ (ev Γ cf (.dc t own kx vx p it cnd) ρ) σ H Q) :
    tDcA (if t then .dT [] else .dK []) (tI c E0 false ρ (itM Γ cf it ρ)) (tG X.K p) (fun σ H Q => ∃ ρ, tT c (fun _ _ _ => False) ρ (cndO Γ cf cnd ρ) σ H Q) (fun σ H Q => ∃ ρ, tE c (fun _ _ _ => False) .rd ρ (ev Γ cf kx ρ) σ H Q)
      (fun σ H Q => ∃ ρ, tE c (fun _ _ _ => False) .rep ρ (ev Γ cf vx ρ) σ H Q) own σ H Q := by
  obtain ⟨G, ds, e, h⟩ := h
  simp only [ev] at h
  refine ⟨G, ds, e, postG_seq (mono_ro .fr) e h fun G1 H1 J items ds1 e1 s1 r1 p1 => ?_⟩
  obtain ⟨Cd, jw, stab, cd⟩ := r1
  intro L0 hD
  have gD : G1 L0 = none := e1.on.free hD
  have tD : ¬ inT c.toCf L0 := fun t => e1.st.there t hD
  have p1 : Post c E0 .fr G1 H1 ((dcM t p (wipeE ρ own) (cndO Γ cf cnd) (ev Γ cf kx) (ev Γ cf vx) items [] ds1).bind fun kvs s => .ok (.dct t kvs) s) Q := p1
  have top0 : Top c.toCf G1 (upd H1 L0 (if t then .dT [] else .dK [])) L0 (.dct t []) := by
    cases t with
    | true => exact .dt upd_same .nil
    | false => exact .dk upd_same .nil
  refine ⟨fun i m Hc => ∃ G2 ds2 kvs, On G2 Hc ∧ Stp c.toCf G1 H1 G2 Hc ∧ StO c.toCf Hc ds2 ∧ G2 L0 = none ∧ Top c.toCf G2 Hc L0 (.dct t kvs) ∧ m = items.length - i ∧
    Post c E0 .fr G1 H1 ((dcM t p (wipeE ρ own) (cndO Γ cf cnd) (ev Γ cf kx) (ev Γ cf vx) (items.drop i) kvs ds2).bind fun kvs s => .ok (.dct t kvs) s) Q, ⟨_, G1, ds1, [], e1.on.alloc hD, Stp.alloc hD, e1.st.alloc hD, gD, top0, rfl, p1⟩, ?_⟩
  rintro i m Hc ⟨G2, ds2, kvs, n2, s2, t2, g2, hc, hm, p2⟩
  have e2 := (e1.wipe own).step n2 s2 t2
  have cd2 : Cd G2 Hc := stab G1 H1 G2 Hc (fun z => by cases z) (fun _ => s2) cd
  by_cases hi : items.length ≤ i
  · left
    refine ⟨jw.stop i G2 Hc n2 cd2 hi, ?_⟩
    rw [List.drop_eq_nil_of_le hi] at p2
    exact p2 G2 Hc _ n2 s2 t2 (.inr ⟨L0, rfl, hD, g2, tD, hc⟩)
  · right
    have hi' : i < items.length := by omega
    have hd : items[i]? = some items[i] := List.getElem?_eq_getElem hi'
    generalize items[i] = d at hd
    have hdrop : items.drop i = d :: items.drop (i + 1) := by
      rw [List.drop_eq_getElem_cons hi']
      have := List.getElem?_eq_getElem hi'
      rw [hd] at this
      rw [Option.some.inj this]
    rw [hdrop] at p2
    refine ⟨jw.go i G2 Hc d n2 cd2 hd, fun Hn => ∃ G3 ds3 kvs3, On G3 Hn ∧ Stp c.toCf G1 H1 G3 Hn ∧ StO c.toCf Hn ds3 ∧ G3 L0 = none ∧ Top c.toCf G3 Hn L0 (.dct t kvs3) ∧
      Post c E0 .fr G1 H1 ((dcM t p (wipeE ρ own) (cndO Γ cf cnd) (ev Γ cf kx) (ev Γ cf vx) (items.drop (i + 1)) kvs3 ds3).bind fun kvs s => .ok (.dct t kvs) s) Q, fun Hn q => ?_, fun x H' hy => ?_⟩
    · obtain ⟨G3, ds3, kvs3, q1, q2, q3, q4, q5, q6⟩ := q
      exact ⟨items.length - (i + 1), by omega, G3, ds3, kvs3, q1, q2, q3, q4, q5, rfl, q6⟩
    · obtain ⟨G3, n3, s3, t3, rx⟩ := jw.yl i G2 Hc x H' d ds2 n2 e2.tn t2 cd2 hd hy
      have e3 := e2.step n3 s3 t3
      have s13 := s2.trans t2 s3
      have th2 := hc.there
      have d3 : Top c.toCf G3 H' L0 (.dct t kvs) := hc.mono s3.ex (s3.kp L0 th2 tD)
      have g3 : G3 L0 = none := s3.nw L0 th2 g2
      simp only [dcM] at p2
      cases hq : asgP p d (wipeE ρ own) with
      | none => rw [hq] at p2; exact p2.elim
      | some ρ1 =>
        rw [hq] at p2
        refine tG_wp p e3 rx hq fun σ2 a2 e4 => ⟨by rw [a2 own hp]; exact wipe_idem σ own, ρ1, G3, ds2, e4, ?_⟩
        show Post c (fun _ _ _ => False) .rd G3 H' ((cndO Γ cf cnd ρ1 ds2).bind boolO) _
        have p2 : Post c E0 .fr G1 H1 ((match cndO Γ cf cnd ρ1 ds2 with
          | .ok (.bl true) s1 => (match ev Γ cf kx ρ1 s1 with
            | .ok k s2 => (match ev Γ cf vx ρ1 s2 with
              | .ok x s3 => (match keyOf k with
                | some y => if kyKind y = t ∧ kvs.length < lim then dcM t p (wipeE ρ own) (cndO Γ cf cnd) (ev Γ cf kx) (ev Γ cf vx) (items.drop (i + 1)) (dput kvs y x) s3 else .no
                | none => .no)
              | _ => .no)
            | _ => .no)
          | .ok (.bl false) s1 => dcM t p (wipeE ρ own) (cndO Γ cf cnd) (ev Γ cf kx) (ev Γ cf vx) (items.drop (i + 1)) kvs s1
          | _ => .no : Out (List (Ky × D))).bind fun kvs s => .ok (.dct t kvs) s) Q := p2
        cases hcn : cndO Γ cf cnd ρ1 ds2 with
        | no => rw [hcn] at p2; exact p2.elim
        | er _ _ _ => rw [hcn] at p2; exact p2.elim
        | ok db ds4 =>
          rw [hcn] at p2
          cases db <;> first | (exact p2.elim; done) | skip
          rename_i b
          intro G4 H4 v n4 s4 t4 r4
          refine ⟨b, ro_bl r4, ?_⟩
          have e5 := e4.step n4 s4 t4
          have s14 := s13.trans t3 s4
          have th3 := d3.there
          have d4 : Top c.toCf G4 H4 L0 (.dct t kvs) := d3.mono s4.ex (s4.kp L0 th3 tD)
          have g4 : G4 L0 = none := s4.nw L0 th3 g3
          cases b with
          | false =>
            simp only [Bool.false_eq_true, if_false, reduceIte]
            exact ⟨G4, ds4, kvs, n4, s14, t4, g4, d4, p2⟩
          | true =>
            simp only [if_true, reduceIte]
            refine ⟨ρ1, G4, ds4, e5, ?_⟩
            have p2 : Post c E0 .fr G1 H1 ((match ev Γ cf kx ρ1 ds4 with
              | .ok k s2 => (match ev Γ cf vx ρ1 s2 with
                | .ok x s3 => (match keyOf k with
                  | some y => if kyKind y = t ∧ kvs.length < lim then dcM t p (wipeE ρ own) (cndO Γ cf cnd) (ev Γ cf kx) (ev Γ cf vx) (items.drop (i + 1)) (dput kvs y x) s3 else .no
                  | none => .no)
                | _ => .no)
              | _ => .no : Out (List (Ky × D))).bind fun kvs s => .ok (.dct t kvs) s) Q := p2
            cases hkx : ev Γ cf kx ρ1 ds4 with
            | no => rw [hkx] at p2; exact p2.elim
            | er _ _ _ => rw [hkx] at p2; exact p2.elim
            | ok dk ds5 =>
            rw [hkx] at p2
            intro G5 H5 uk n5 s5 t5 r5
            have e6 := e5.step n5 s5 t5
            have th4 := d4.there
            have d5 : Top c.toCf G5 H5 L0 (.dct t kvs) := d4.mono s5.ex (s5.kp L0 th4 tD)
            have g5 : G5 L0 = none := s5.nw L0 th4 g4
            have s15 := s14.trans t4 s5
            refine ⟨ρ1, G5, ds5, e6, ?_⟩
            have p2 : Post c E0 .fr G1 H1 ((match ev Γ cf vx ρ1 ds5 with
              | .ok x s3 => (match keyOf dk with
                | some y => if kyKind y = t ∧ kvs.length < lim then dcM t p (wipeE ρ own) (cndO Γ cf cnd) (ev Γ cf kx) (ev Γ cf vx) (items.drop (i + 1)) (dput kvs y x) s3 else .no
                | none => .no)
              | _ => .no : Out (List (Ky × D))).bind fun kvs s => .ok (.dct t kvs) s) Q := p2
            cases hvx : ev Γ cf vx ρ1 ds5 with
            | no => rw [hvx] at p2; exact p2.elim
            | er _ _ _ => rw [hvx] at p2; exact p2.elim
            | ok dv ds6 =>
            rw [hvx] at p2
            intro G6 H6 uv n6 s6 t6 r6
            have r6 : Rep c.toCf G6 uv dv := r6
            have th5 := d5.there
            have d6 : Top c.toCf G6 H6 L0 (.dct t kvs) := d5.mono s6.ex (s6.kp L0 th5 tD)
            have g6 : G6 L0 = none := s6.nw L0 th5 g5
            have s16 := s15.trans t5 s6
            have p2 : Post c E0 .fr G1 H1 ((match keyOf dk with
                | some y => if kyKind y = t ∧ kvs.length < lim then dcM t p (wipeE ρ own) (cndO Γ cf cnd) (ev Γ cf kx) (ev Γ cf vx) (items.drop (i + 1)) (dput kvs y dv) ds6 else .no
                | none => .no : Out (List (Ky × D))).bind fun kvs s => .ok (.dct t kvs) s) Q := p2
            cases hky : keyOf dk with
            | none => rw [hky] at p2; exact p2.elim
            | some y =>
              rw [hky] at p2
              have p2 : Post c E0 .fr G1 H1 ((if kyKind y = t ∧ kvs.length < lim then dcM t p (wipeE ρ own) (cndO Γ cf cnd) (ev Γ cf kx) (ev Γ cf vx) (items.drop (i + 1)) (dput kvs y dv) ds6 else .no : Out (List (Ky × D))).bind fun kvs s => .ok (.dct t kvs) s) Q := p2
              by_cases hok : kyKind y = t ∧ kvs.length < lim
              · rw [if_pos hok] at p2
                obtain ⟨o, w1, w2⟩ := top_dput d6 (keyAt n6 (RO.keep r5 s6) hky) hok.1 hok.2 r6
                refine ⟨_, w1, G6, ds6, dput kvs y dv, fun a ob ha => ?_, ⟨s16.ex, fun a ha ht => ?_, s16.nw⟩, fun s i he => ?_, g6, w2, p2⟩
                · have ne : a ≠ L0 := fun z => by rw [z, g6] at ha; cases ha
                  rw [upd_ne ne]; exact n6 a ob ha
                · have ne : a ≠ L0 := fun z => ha (by rw [z]; exact hD)
                  rw [upd_ne ne]; exact s16.kp a ha ht
                · obtain ⟨h1, h2, h3⟩ := t6 s i he
                  have ns : s ≠ L0 := fun z => tD ⟨s, i, he, .inl z.symm⟩
                  have ni : i ≠ L0 := fun z => tD ⟨s, i, he, .inr z.symm⟩
                  exact ⟨h1, by rw [upd_ne ns]; exact h2, by rw [upd_ne ni]; exact h3⟩
              · rw [if_neg hok] at p2; exact p2.elim
end
end IR
end
section
set_option Elab.async false
set_option linter.all false
set_option maxRecDepth 100000
set_option maxHeartbeats 4100000
namespace IR
open L2 PySem PySem.Spec PyProof.Rows
section
variable {Γ : Gm} {c : Cg} {cf : Nat → List D → DS → Out D} {ar : Nat → Nat} {k : Nat} {N : List Str}
theorem SE.rd {E0 : XK} {X : Cx} {x : PySem.Expr} {m : Md} {ρ : Env} {o : DS → Out D} (h : SE c E0 X x m ρ o) : PE X x (tE c E0 .rd ρ o) := pe_rd h.pe
theorem SE.rep {E0 : XK} {X : Cx} {x : PySem.Expr} {m : Md} {ρ : Env} {o : DS → Out D} (h : SE c E0 X x m ρ o) (hm : m ≠ .rd) : PE X x (tE c E0 .rep ρ o) := pe_rep h.pe hm
theorem SE.am {E0 : XK} {X : Cx} {x : PySem.Expr} {m : Md} {ρ : Env} {o : DS → Out D} {all : Bool} (h : SE c E0 X x m ρ o) (hm : (!all || decide (m ≠ .rd)) = true) : PE X x (tE c E0 (aM all) ρ o) := by
  cases all with
  | true => exact h.rep (by simpa using hm)
  | false => exact h.rd
def AllE (Γ : Gm) (c : Cg) (cf : Nat → List D → DS → Out D) (ar : Nat → Nat) (k : Nat) (N : List Str) (n : Nat) : Prop := ∀ (e : E) (sc : Scope) (E0 : XK) (X : Cx) (ρ : Env) (x : PySem.Expr), sizeOf e < n → CxOk Γ c cf ar k N sc E0 X → chk Γ N sc e x = true → SE c E0 X x (mdOf Γ e) ρ (ev Γ cf e ρ)
def AllEs (Γ : Gm) (c : Cg) (cf : Nat → List D → DS → Out D) (ar : Nat → Nat) (k : Nat) (N : List Str) (n : Nat) : Prop := ∀ (es : Es) (sc : Scope) (E0 : XK) (X : Cx) (ρ : Env) (all : Bool) (xs : List PySem.Expr), sizeOf es < n → CxOk Γ c cf ar k N sc E0 X → chks Γ N sc all es xs = true → PA X xs (tA c E0 all ρ (evs Γ cf es ρ))
def AllI (Γ : Gm) (c : Cg) (cf : Nat → List D → DS → Out D) (ar : Nat → Nat) (k : Nat) (N : List Str) (n : Nat) : Prop := ∀ (it : It) (sc : Scope) (E0 : XK) (X : Cx) (ρ : Env) (all : Bool) (x tg : PySem.Expr), sizeOf it < n → CxOk Γ c cf ar k N sc E0 X → chkI Γ N sc all it x tg = true → PI X tg x (tI c E0 all ρ (itM Γ cf it ρ)) ∧ ∀ v, foldedSetIterable x X.env v = pure v
theorem all_I {n : Nat} (hE : AllE Γ c cf ar k N n) : AllI Γ c cf ar k N (n + 1) := by
  intro it sc E0 X ρ all x tg hn hX h
  unfold chkI at h
  split at h
  · rename_i e
    (simp only [Bool.and_eq_true] at h)
    obtain ⟨⟨h1, h2⟩, h3⟩ := h
    exact ⟨i_l ((hE e sc E0 X ρ _ (by simp at hn; omega) hX h1).am h2), set_pure h3⟩
  · rename_i e
    (simp only [Bool.and_eq_true] at h)
    exact ⟨i_s (hE e sc E0 X ρ _ (by simp at hn; omega) hX h.1).rd, set_pure h.2⟩
  · rename_i a n p y pos
    (simp only [Bool.and_eq_true] at h)
    (obtain ⟨⟨⟨h1, h2⟩, h3⟩, h4⟩ := h)
    exact ⟨i_r1 hX (of_decide_eq_true h1) h2 h4 (hE a sc E0 X ρ _ (by simp at hn; omega) hX h3).rd, fun _ => rfl⟩
  · rename_i a b n p y z pos
    (simp only [Bool.and_eq_true] at h)
    obtain ⟨⟨⟨⟨⟨h1, h2⟩, h3⟩, h4⟩, h5⟩, h6⟩ := h
    exact ⟨i_r2 hX (of_decide_eq_true h1) h2 h5 h6 (hE a sc E0 X ρ _ (by simp at hn; omega) hX h3).rd (hE b sc E0 X ρ _ (by simp at hn; omega) hX h4).rd, fun _ => rfl⟩
  · rename_i e n p y pos _ _ _
    (simp only [Bool.and_eq_true] at h)
    obtain ⟨⟨⟨⟨h1, h2⟩, h3⟩, h4⟩, h5⟩ := h
    exact ⟨i_en hX (of_decide_eq_true h2) h3 h5 ((hE e sc E0 X ρ _ (by simp at hn; omega) hX h4).am h1), fun _ => rfl⟩
  · rename_i a b n p y z pos _ _ _
    (simp only [Bool.and_eq_true] at h)
    (obtain ⟨⟨⟨⟨⟨⟨h1, h2⟩, h3⟩, h4⟩, h5⟩, h6⟩, h7⟩ := h)
    have h1a : (!all || decide (mdOf Γ a ≠ .rd)) = true := by
      cases all <;> simp_all
    have h1b : (!all || decide (mdOf Γ b ≠ .rd)) = true := by
      cases all <;> simp_all
    exact ⟨i_zp hX (of_decide_eq_true h2) h3 h6 h7 ((hE a sc E0 X ρ _ (by simp at hn; omega) hX h4).am h1a) ((hE b sc E0 X ρ _ (by simp at hn; omega) hX h5).am h1b), fun _ => rfl⟩
  · cases h
theorem all_Es {n : Nat} (hE : AllE Γ c cf ar k N n) : ∀ (m : Nat), m ≤ n + 1 → AllEs Γ c cf ar k N m := by
  intro m
  induction m with
  | zero => intro _ es sc E0 X ρ all xs hn; omega
  | succ m ih =>
    intro hm es sc E0 X ρ all xs hn hX h
    cases es with
    | nil =>
      cases xs with
      | nil => exact pa_nil'
      | cons _ _ => simp [chks] at h
    | cons e r =>
      cases xs with
      | nil => simp [chks] at h
      | cons x xs =>
        simp only [chks, Bool.and_eq_true] at h
        (obtain ⟨⟨⟨h1, h2⟩, h3⟩, h4⟩ := h)
        exact pa_cons' ((hE e sc E0 X ρ _ (by simp at hn; omega) hX h1).am h3) (ih (by omega) r sc E0 X ρ all xs (by simp at hn; omega) hX h4) h2
theorem se_one {E0 : XK} {X : Cx} {x : PySem.Expr} {m : Md} {ρ : Env} {o : DS → Out D} {op : BoolOp} {pos : Pos} (h : SE c E0 X x m ρ o) (hi : notIf x = true) : PE X (.BoolOp op [x] pos) (tE c E0 .rd ρ o) ∧ PW X (.BoolOp op [x] pos) (tT c E0 ρ o) := by
  refine ⟨pe_one h.rd, ?_⟩
  cases op with
  | And => exact pw_and1 (h.pt hi)
  | Or => exact pw_or1 (h.pt hi)
theorem all_E {n : Nat} (hE : AllE Γ c cf ar k N n) (hA : AllEs Γ c cf ar k N n) (hI : AllI Γ c cf ar k N n) : AllE Γ c cf ar k N (n + 1) := by
  intro e sc E0 X ρ x hn hX h
  have h0 := h
  unfold chk at h
  split at h
  · exact s_c h0
  · exact s_v hX h0
  · exact s_rv hX h0
  · exact s_g hX h0
  · -- bin
    rename_i o a b x op y p
    (simp only [Bool.and_eq_true] at h)
    exact s_bin h.1.1 (hE a sc E0 X ρ _ (by simp at hn; omega) hX h.1.2).rd (hE b sc E0 X ρ _ (by simp at hn; omega) hX h.2).rd
  · -- cmp
    rename_i o a b x op y p
    (simp only [Bool.and_eq_true] at h)
    exact s_cmp hX h.1.1.1 (by simpa using h.2) (hE a sc E0 X ρ _ (by simp at hn; omega) hX h.1.1.2).rd (hE b sc E0 X ρ _ (by simp at hn; omega) hX h.1.2).rd
  · -- ch
    rename_i o o' a b d x op op' y z p
    (simp only [Bool.and_eq_true] at h)
    obtain ⟨⟨⟨⟨⟨h1, h2⟩, h3⟩, h4⟩, h5⟩, h6⟩ := h
    exact s_ch hX h1 h2 (by simpa using h6) (hE a sc E0 X ρ _ (by simp at hn; omega) hX h3).rd (hE b sc E0 X ρ _ (by simp at hn; omega) hX h4).rd (hE d sc E0 X ρ _ (by simp at hn; omega) hX h5).rd
  · -- isN
    rename_i a x _ _ _
    exact s_isN (hE a sc E0 X ρ _ (by simp at hn; omega) hX h).rd
  · rename_i a x _ _ _
    exact s_notN (hE a sc E0 X ρ _ (by simp at hn; omega) hX h).rd
  · -- and
    rename_i a b x y r p
    (simp only [Bool.and_eq_true] at h)
    obtain ⟨⟨h1, h2⟩, h3⟩ := h
    have ha := hE a sc E0 X ρ _ (by simp at hn; omega) hX h1
    split at h3
    · simp only [Bool.and_eq_true] at h3
      obtain ⟨q1, q2⟩ := se_one (op := .And) (pos := p) (hE b sc E0 X ρ _ (by simp at hn; omega) hX h3.1) h3.2
      exact s_and ha h2 q1 q2
    · have hb := hE b sc E0 X ρ _ (by simp at hn; omega) hX h3
      exact s_and ha h2 hb.rd (hb.pw _ _ _ rfl)
  · -- or
    rename_i a b x y r p
    (simp only [Bool.and_eq_true] at h)
    obtain ⟨⟨h1, h2⟩, h3⟩ := h
    have ha := hE a sc E0 X ρ _ (by simp at hn; omega) hX h1
    split at h3
    · simp only [Bool.and_eq_true] at h3
      obtain ⟨q1, q2⟩ := se_one (op := .Or) (pos := p) (hE b sc E0 X ρ _ (by simp at hn; omega) hX h3.1) h3.2
      exact s_or ha h2 q1 q2
    · have hb := hE b sc E0 X ρ _ (by simp at hn; omega) hX h3
      exact s_or ha h2 hb.rd (hb.pw _ _ _ rfl)
  · -- not
    rename_i a x p
    (simp only [Bool.and_eq_true] at h)
    exact s_not (hE a sc E0 X ρ _ (by simp at hn; omega) hX h.1) h.2
  · rename_i a x p
    exact s_neg (hE a sc E0 X ρ _ (by simp at hn; omega) hX h).rd
  · -- ife
    rename_i t a b u x y p
    (simp only [Bool.and_eq_true] at h)
    obtain ⟨⟨⟨⟨⟨h1, h2⟩, h3⟩, h4⟩, h5⟩, h6⟩ := h
    exact s_ife ((hE t sc E0 X ρ _ (by simp at hn; omega) hX h1).pt h2) ((hE a sc E0 X ρ _ (by simp at hn; omega) hX h3).rep (of_decide_eq_true h5)) ((hE b sc E0 X ρ _ (by simp at hn; omega) hX h4).rep (of_decide_eq_true h6))
  · -- tup
    rename_i es xs j p
    exact s_tup (hA es sc E0 X ρ true _ (by simp at hn; omega) hX h)
  · rename_i es xs p
    exact s_lst (hA es sc E0 X ρ true _ (by simp at hn; omega) hX h)
  · exact s_dnew
  · -- sub
    rename_i a i x y p
    (simp only [Bool.and_eq_true] at h)
    exact s_sub hX (hE a sc E0 X ρ _ (by simp at hn; omega) hX h.1.1).rd (hE i sc E0 X ρ _ (by simp at hn; omega) hX h.1.2).rd h.2
  · -- sl
    rename_i a lo hi x l hh p2 p
    (simp only [Bool.and_eq_true] at h)
    obtain ⟨⟨h1, h2⟩, h3⟩ := h
    have po : ∀ (e : E) (y : Option PySem.Expr), sizeOf e < n → (match y with
      | none => e.isNop
      | some y => !e.isNop && chk Γ N sc e y) = true → PO X y (tO c E0 ρ fun s => if e.isNop then .ok none s else (ev Γ cf e ρ s).bind intO) := by
      intro e y hs hy
      cases y with
      | none =>
        have hy : e.isNop = true := hy
        simp only [hy, if_true]
        exact po_none'
      | some y =>
        have hy : (!e.isNop && chk Γ N sc e y) = true := hy
        simp only [Bool.and_eq_true, Bool.not_eq_true'] at hy
        simp only [hy.1, Bool.false_eq_true, if_false]
        exact po_some' (hE e sc E0 X ρ _ hs hX hy.2).rd
    have q := s_sl (Γ := Γ) (cf := cf) (pos := p) (p2 := p2) (hE a sc E0 X ρ _ (by simp at hn; omega) hX h1).rd (po lo l (by simp at hn; omega) h2) (po hi hh (by simp at hn; omega) h3)
    have e2 : ev Γ cf (.sl a lo hi) ρ = fun s => (ev Γ cf a ρ s).bind fun x s => (if lo.isNop then .ok none s else (ev Γ cf lo ρ s).bind intO).bind fun l s => (if hi.isNop then .ok none s else (ev Γ cf hi ρ s).bind intO).bind fun h s => .of (slD x l h) s := by
      funext s; simp only [ev]
    rw [e2]
    exact q
  · -- call
    rename_i f es x p xs pp
    have h' := h
    (simp only [Bool.and_eq_true] at h')
    exact s_call hX h0 (hA es sc E0 X ρ _ _ (by simp at hn; omega) hX h'.2)
  · -- mth
    rename_i f o es x m ap xs cp
    have h' := h
    (simp only [Bool.and_eq_true] at h')
    obtain ⟨⟨⟨⟨⟨h1, h2⟩, h3⟩, h4⟩, h5⟩, h6⟩ := h'
    exact s_mth hX h0 (hE o sc E0 X ρ _ (by simp at hn; omega) hX h1).rd (hA es sc E0 X ρ true _ (by simp at hn; omega) hX h4)
  · -- new
    rename_i f es x p xs pp
    have h' := h
    (simp only [Bool.and_eq_true] at h')
    exact s_new hX h0 (hA es sc E0 X ρ true _ (by simp at hn; omega) hX h'.1.2)
  · -- bi
    rename_i b es x p xs pp
    have h' := h
    (simp only [Bool.and_eq_true] at h')
    exact s_bi hX h0 (hA es sc E0 X ρ false _ (by simp at hn; omega) hX h'.1.2)
  · -- lrng
    rename_i a x p y p1 z p2 p3
    (simp only [Bool.and_eq_true] at h)
    obtain ⟨⟨⟨⟨⟨h1, h2⟩, h3⟩, h4⟩, h5⟩, h6⟩ := h
    exact s_lrng hX (of_decide_eq_true h1) (of_decide_eq_true h2) h3 h4 h6 (hE a sc E0 X ρ _ (by simp at hn; omega) hX h5).rd
  · -- isi
    rename_i a ts x p y z pp
    have h' := h
    (simp only [Bool.and_eq_true] at h')
    exact s_isi hX h0 (hE a sc E0 X ρ _ (by simp at hn; omega) hX h'.1.1.1.2).rd
  · -- get1
    rename_i o q x m ap y cp
    (simp only [Bool.and_eq_true] at h)
    obtain ⟨⟨⟨⟨⟨h1, h2⟩, h3⟩, h4⟩, h5⟩, h6⟩ := h
    have e := of_decide_eq_true h1
    subst e
    exact s_get1 hX h3 h5 h6 (hE o sc E0 X ρ _ (by simp at hn; omega) hX h2).rd (hE q sc E0 X ρ _ (by simp at hn; omega) hX h4).rd
  · -- get2
    rename_i o q d x m ap y z cp
    (simp only [Bool.and_eq_true] at h)
    (obtain ⟨⟨⟨⟨⟨⟨⟨⟨h1, h2⟩, h3⟩, h4⟩, h5⟩, h6⟩, h7⟩, h8⟩, h9⟩ := h)
    have e := of_decide_eq_true h1
    subst e
    exact s_get2 hX h3 h7 h8 h9 (hE o sc E0 X ρ _ (by simp at hn; omega) hX h2).rd (hE q sc E0 X ρ _ (by simp at hn; omega) hX h4).rd ((hE d sc E0 X ρ _ (by simp at hn; omega) hX h5).rep (of_decide_eq_true h6))
  · -- index
    rename_i o q x m ap y cp
    (simp only [Bool.and_eq_true] at h)
    obtain ⟨⟨⟨⟨⟨h1, h2⟩, h3⟩, h4⟩, h5⟩, h6⟩ := h
    have e := of_decide_eq_true h1
    subst e
    exact s_index hX h3 h5 h6 (hE o sc E0 X ρ _ (by simp at hn; omega) hX h2).rd (hE q sc E0 X ρ _ (by simp at hn; omega) hX h4).rd
  · -- fld
    rename_i o f x m p
    (simp only [Bool.and_eq_true] at h)
    exact s_fld hX (of_decide_eq_true h.1.1) h.2 (hE o sc E0 X ρ _ (by simp at hn; omega) hX h.1.2).rd
  · -- lc
    rename_i own elt p it cnd e tg iter ifs nn scope pp
    (simp only [Bool.and_eq_true] at h)
    (obtain ⟨⟨⟨⟨⟨⟨⟨⟨h1, h2⟩, h3⟩, h4⟩, h5⟩, h6⟩, h7⟩, h8⟩, h9⟩ := h)
    have en := of_decide_eq_true h1
    subst en
    obtain ⟨q1, q2⟩ := hI it sc E0 X ρ false iter tg (by simp at hn; omega) hX h2
    have own_eq : (ownNames N own).map (·.2) = own := of_decide_eq_true h4
    have ok : BlkOk X.N X.env.scope scope (ownNames N own) := by rw [hX.hN, hX.hsc]; exact blkOk_by h3
    have hp : ∀ i ∈ p.slots, i ∈ own := by
      intro i hi
      have := List.all_eq_true.mp h6 i hi
      simpa using this
    refine SE.plain (pe_imp (pe_lc (g := tG X.K p) (tt := fun σ H Q => ∃ ρ, tT c (fun _ _ _ => False) ρ (cndO Γ cf cnd ρ) σ H Q) (te := fun σ H Q => ∃ ρ, tE c (fun _ _ _ => False) .rep ρ (ev Γ cf elt ρ) σ H Q) hX.calm (by rw [hX.hN]; exact hX.nd) q1 ok ?_ ?_ ?_ q2) fun σ H Q hh => ?_) (fun _ _ e => by cases e) (fun _ _ _ e => by cases e) (fun _ _ _ _ e => by cases e)
    · intro s H C cl fp
      exact pg_pt (X := X.blk s H scope (compEnvC scope cl C X.env) fp) hX.hN hX.nd hX.calm blk_loc p h5
    · intro s H C cl fp
      have hX' := blk_cx (scope := scope) (s := s) (H := H) (C := C) (cl := cl) (fp := fp) hX
      refine pts_ex fun ρ' => ?_
      split at h9
      · have h9 : cnd.isNop = true := h9
        unfold cndO
        simp only [h9, if_true]
        exact pts_none
      · simp only [Bool.and_eq_true, Bool.not_eq_true'] at h9
        obtain ⟨⟨k1, k2⟩, k3⟩ := h9
        unfold cndO
        simp only [k1, Bool.false_eq_true, if_false]
        exact pts_one ((hE cnd _ _ _ ρ' _ (by simp at hn; omega) hX' k2).pt k3)
      · cases h9
    · intro s H C cl fp
      have hX' := blk_cx (scope := scope) (s := s) (H := H) (C := C) (cl := cl) (fp := fp) hX
      exact pe_ex fun ρ' => (hE elt _ _ _ ρ' _ (by simp at hn; omega) hX' h7).rep (of_decide_eq_true h8)
    · rw [own_eq]
      exact lc_wp hp hh
  · -- dc
    rename_i tt own kx vx p it cnd ke ve tg iter ifs nn scope pp
    (simp only [Bool.and_eq_true] at h)
    obtain ⟨⟨⟨⟨⟨⟨⟨⟨⟨h1, h2⟩, h3⟩, h4⟩, h5⟩, h6⟩, h7⟩, h7'⟩, h8⟩, h9⟩ := h
    have en := of_decide_eq_true h1
    subst en
    obtain ⟨q1, q2⟩ := hI it sc E0 X ρ false iter tg (by simp at hn; omega) hX h2
    have own_eq : (ownNames N own).map (·.2) = own := of_decide_eq_true h4
    have ok : BlkOk X.N X.env.scope scope (ownNames N own) := by rw [hX.hN, hX.hsc]; exact blkOk_by h3
    have hp : ∀ i ∈ p.slots, i ∈ own := by
      intro i hi
      have := List.all_eq_true.mp h6 i hi
      simpa using this
    refine SE.plain (pe_imp (pe_dcA (o0 := if tt then .dT [] else .dK []) (by cases tt <;> simp) (by have := hX.room.un; omega) (g := tG X.K p) (tt := fun σ H Q => ∃ ρ, tT c (fun _ _ _ => False) ρ (cndO Γ cf cnd ρ) σ H Q) (tk := fun σ H Q => ∃ ρ, tE c (fun _ _ _ => False) .rd ρ (ev Γ cf kx ρ) σ H Q)
      (tv := fun σ H Q => ∃ ρ, tE c (fun _ _ _ => False) .rep ρ (ev Γ cf vx ρ) σ H Q) hX.calm (by rw [hX.hN]; exact hX.nd) q1 ok ?_ ?_ ?_ ?_ q2) fun σ H Q hh => ?_) (fun _ _ e => by cases e) (fun _ _ _ e => by cases e) (fun _ _ _ _ e => by cases e)
    · intro s H C cl fp
      exact pg_pt (X := X.blk s H scope (compEnvC scope cl C X.env) fp) hX.hN hX.nd hX.calm blk_loc p h5
    · intro s H C cl fp
      have hX' := blk_cx (scope := scope) (s := s) (H := H) (C := C) (cl := cl) (fp := fp) hX
      refine pts_ex fun ρ' => ?_
      split at h9
      · have h9 : cnd.isNop = true := h9
        unfold cndO
        simp only [h9, if_true]
        exact pts_none
      · simp only [Bool.and_eq_true, Bool.not_eq_true'] at h9
        obtain ⟨⟨k1, k2⟩, k3⟩ := h9
        unfold cndO
        simp only [k1, Bool.false_eq_true, if_false]
        exact pts_one ((hE cnd _ _ _ ρ' _ (by simp at hn; omega) hX' k2).pt k3)
      · cases h9
    · intro s H C cl fp
      have hX' := blk_cx (scope := scope) (s := s) (H := H) (C := C) (cl := cl) (fp := fp) hX
      exact pe_ex fun ρ' => (hE kx _ _ _ ρ' _ (by simp at hn; omega) hX' h7).rd
    · intro s H C cl fp
      have hX' := blk_cx (scope := scope) (s := s) (H := H) (C := C) (cl := cl) (fp := fp) hX
      exact pe_ex fun ρ' => (hE vx _ _ _ ρ' _ (by simp at hn; omega) hX' h7').rep (of_decide_eq_true h8)
    · rw [own_eq]
      exact dc_wp hp hh
  · cases h
theorem all_all : ∀ n, AllE Γ c cf ar k N n ∧ AllEs Γ c cf ar k N n ∧ AllI Γ c cf ar k N n
  | 0 => ⟨fun _ _ _ _ _ _ h => by omega, fun _ _ _ _ _ _ _ h => by omega, fun _ _ _ _ _ _ _ _ h => by omega⟩
  | n + 1 => by
    obtain ⟨h1, h2, h3⟩ := all_all n
    exact ⟨all_E h1 h2 h3, all_Es h1 (n + 1) (Nat.le_refl _), all_I h1⟩
theorem s_E (e : E) {sc : Scope} {E0 : XK} {X : Cx} {ρ : Env} {x : PySem.Expr} (hX : CxOk Γ c cf ar k N sc E0 X) (h : chk Γ N sc e x = true) : SE c E0 X x (mdOf Γ e) ρ (ev Γ cf e ρ) := (all_all (sizeOf e + 1)).1 e sc E0 X ρ x (by omega) hX h
theorem s_Es (es : Es) {sc : Scope} {E0 : XK} {X : Cx} {ρ : Env} {all : Bool} {xs : List PySem.Expr} (hX : CxOk Γ c cf ar k N sc E0 X) (h : chks Γ N sc all es xs = true) : PA X xs (tA c E0 all ρ (evs Γ cf es ρ)) := (all_all (sizeOf es + 1)).2.1 es sc E0 X ρ all xs (by omega) hX h
theorem s_It (it : It) {sc : Scope} {E0 : XK} {X : Cx} {ρ : Env} {all : Bool} {x tg : PySem.Expr} (hX : CxOk Γ c cf ar k N sc E0 X) (h : chkI Γ N sc all it x tg = true) : PI X tg x (tI c E0 all ρ (itM Γ cf it ρ)) ∧ ∀ v, foldedSetIterable x X.env v = pure v := (all_all (sizeOf it + 1)).2.2 it sc E0 X ρ all x tg (by omega) hX h
end
end IR
end
section
set_option Elab.async false
set_option linter.all false
set_option maxRecDepth 100000
set_option maxHeartbeats 4100000
namespace IR
open L2 PySem PySem.Spec PyProof.Rows
/-! ## statements: what stands -/
structure GI (c : Cf) (Ge He G : Hp) (σ : L2.St) (ρ : Env) (H : Hp) (ds : DS) : Prop where
  ei : EI c G σ ρ H ds
  sp : Stp c Ge He G H
  fr : ∀ (j : Nat) (d : D) (p : Addr), ρ[j]? = some (Slot.own d) → σ[j]? = some (some (V.ref p)) → He p = none
  dj : ∀ (i j : Nat) (di dj : D) (p q : Addr), i ≠ j → ρ[i]? = some (Slot.own di) → ρ[j]? = some (Slot.own dj) → σ[i]? = some (some (V.ref p)) → σ[j]? = some (some (V.ref q)) → p ≠ q
section
variable {c : Cf} {Ge He G G1 H H1 : Hp} {σ : L2.St} {ρ : Env} {ds ds1 : DS}
theorem GI.step (g : GI c Ge He G σ ρ H ds) (n : On G1 H1) (s : Stp c G H G1 H1) (t : StO c H1 ds1) : GI c Ge He G1 σ ρ H1 ds1 :=
  ⟨g.ei.step n s t, g.sp.trans g.ei.st s, g.fr, g.dj⟩
theorem set_own {ρ : Env} {i j : Nat} {x : Slot} {d : D} (h : (ρ.set i x)[j]? = some (.own d)) : (j = i ∧ x = .own d ∧ i < ρ.length) ∨ (j ≠ i ∧ ρ[j]? = some (.own d)) := by
  by_cases e : i = j
  · subst e
    have hl : i < ρ.length := by
      rw [List.getElem?_eq_some_iff] at h
      have := h.1
      rwa [List.length_set] at this
    rw [List.getElem?_set_self hl] at h
    exact .inl ⟨rfl, Option.some.inj h, hl⟩
  · rw [List.getElem?_set_ne e] at h
    exact .inr ⟨Ne.symm e, h⟩
/-- a known thing is stored -/
theorem GI.sh (g : GI c Ge He G σ ρ H ds) {i : Nat} {v : V} {d : D} (r : Rep c G v d) : GI c Ge He G (σ.set i (some v)) (ρ.set i (.sh d)) H ds := by
  refine ⟨g.ei.sh r, g.sp, fun j d' p h1 h2 => ?_, fun a b da db p q ne h1 h2 h3 h4 => ?_⟩
  · rcases set_own h1 with ⟨_, e, _⟩ | ⟨ne, h1⟩
    · cases e
    · rw [List.getElem?_set_ne (Ne.symm ne)] at h2
      exact g.fr j d' p h1 h2
  · rcases set_own h1 with ⟨_, e, _⟩ | ⟨na, h1⟩
    · cases e
    · rcases set_own h2 with ⟨_, e, _⟩ | ⟨nb, h2⟩
      · cases e
      · rw [List.getElem?_set_ne (Ne.symm na)] at h3
        rw [List.getElem?_set_ne (Ne.symm nb)] at h4
        exact g.dj a b da db p q ne h1 h2 h3 h4
/-- a new thing is stored -/
theorem GI.own (g : GI c Ge He G σ ρ H ds) {i : Nat} {p : Addr} {d : D} (hf : He p = none) (hg : G p = none) (ht : ¬ inT c p) (t : Top c G H p d) (hd : ∀ (j : Nat) (d' : D) (q : Addr), j ≠ i → ρ[j]? = some (Slot.own d') → σ[j]? = some (some (V.ref q)) → q ≠ p) :
    GI c Ge He G (σ.set i (some (.ref p))) (ρ.set i (.own d)) H ds := by
  refine ⟨g.ei.put fun hl => ⟨p, by rw [List.getElem?_set_self hl], hg, ht, t⟩, g.sp, fun j d' q h1 h2 => ?_, fun a b da db q q' ne h1 h2 h3 h4 => ?_⟩
  · rcases set_own h1 with ⟨e, _, hl⟩ | ⟨ne, h1⟩
    · subst e
      rw [List.getElem?_set_self (by rw [← g.ei.ln]; exact hl)] at h2
      cases h2
      exact hf
    · rw [List.getElem?_set_ne (Ne.symm ne)] at h2
      exact g.fr j d' q h1 h2
  · rcases set_own h1 with ⟨e, _, hl⟩ | ⟨na, h1⟩
    · subst e
      rw [List.getElem?_set_self (by rw [← g.ei.ln]; exact hl)] at h3
      cases h3
      rcases set_own h2 with ⟨e, _, _⟩ | ⟨nb, h2⟩
      · exact absurd e.symm ne
      · rw [List.getElem?_set_ne (Ne.symm nb)] at h4
        exact (hd b db q' nb h2 h4).symm
    · rw [List.getElem?_set_ne (Ne.symm na)] at h3
      have k1 := hd a da q na h1 h3
      rcases set_own h2 with ⟨e, _, hl⟩ | ⟨nb, h2⟩
      · subst e
        rw [List.getElem?_set_self (by rw [← g.ei.ln]; exact hl)] at h4
        cases h4
        exact k1
      · rw [List.getElem?_set_ne (Ne.symm nb)] at h4
        exact g.dj a b da db q q' ne h1 h2 h3 h4
theorem GI.ownAt (g : GI c Ge He G σ ρ H ds) {j : Nat} {d : D} (h : ρ[j]? = some (.own d)) : ∃ p, σ[j]? = some (some (.ref p)) ∧ G p = none ∧ ¬ inT c p ∧ Top c G H p d ∧ He p = none := by
  obtain ⟨p, h1, h2, h3, h4⟩ := g.ei.sl j _ h
  exact ⟨p, h1, h2, h3, h4, g.fr j d p h h1⟩
/-- what a expression gave is stored -/
theorem GI.asg (g : GI c Ge He G σ ρ H ds) (n : On G1 H1) (s : Stp c G H G1 H1) (t : StO c H1 ds1) {m : Md} {i : Nat} {v : V} {d : D} (r : RO c m H G1 H1 v d) (hm : m ≠ .rd) : GI c Ge He G1 (σ.set i (some v)) (ρ.set i (mkSlot m d)) H1 ds1 := by
  have g1 := g.step n s t
  unfold mkSlot
  split
  · rename_i hq
    obtain ⟨e, hc⟩ := hq
    subst e
    rcases r with ⟨_, r⟩ | ⟨p, rfl, h2, h3, h4, h5⟩
    · rw [hc] at r; cases r
    · refine g1.own (g.sp.fresh g.ei.st h2) h3 h4 h5 fun j d' q _ hj hq e => ?_
      obtain ⟨q', k1, _, _, k4⟩ := g.ei.sl j _ hj
      rw [hq] at k1
      cases k1
      subst e
      exact k4.there h2
  · rename_i hq
    cases m with
    | rd => exact absurd rfl hm
    | rep => exact g1.sh r
    | fr =>
      rcases r with ⟨r, _⟩ | ⟨p, rfl, h2, h3, h4, h5⟩
      · exact g1.sh r
      · refine absurd ⟨rfl, ?_⟩ hq
        cases h5 <;> rfl
/-- a new thing of one's own is changed -/
theorem GI.mut (g : GI c Ge He G σ ρ H ds) {i : Nat} {d0 d1 : D} {p : Addr} {o : HO} (hi : ρ[i]? = some (.own d0)) (hs : σ[i]? = some (some (.ref p))) (t : Top c G (upd H p o) p d1) : GI c Ge He G σ (ρ.set i (.own d1)) (upd H p o) ds := by
  obtain ⟨p', h1, hg, hT, _, hf⟩ := g.ownAt hi
  rw [hs] at h1
  cases h1
  have il : i < ρ.length := by
    rw [List.getElem?_eq_some_iff] at hi
    exact hi.1
  refine ⟨⟨by rw [List.length_set]; exact g.ei.ln, fun a u ha => ?_, g.ei.tn, fun s' i' he => ?_, fun j x hx => ?_⟩, ⟨g.sp.ex, fun a ha ht => ?_, g.sp.nw⟩, fun j d' q k1 k2 => ?_, fun a b da db q q' ne k1 k2 k3 k4 => ?_⟩
  · have ne : a ≠ p := fun z => by rw [z, hg] at ha; cases ha
    rw [upd_ne ne]; exact g.ei.on a u ha
  · obtain ⟨k1, k2, k3⟩ := g.ei.st s' i' he
    have ns : s' ≠ p := fun z => hT ⟨s', i', he, .inl z.symm⟩
    have ni : i' ≠ p := fun z => hT ⟨s', i', he, .inr z.symm⟩
    exact ⟨k1, by rw [upd_ne ns]; exact k2, by rw [upd_ne ni]; exact k3⟩
  · by_cases e : i = j
    · subst e
      rw [List.getElem?_set_self il] at hx
      cases hx
      exact ⟨p, hs, hg, hT, t⟩
    · rw [List.getElem?_set_ne e] at hx
      have q := g.ei.sl j x hx
      cases x with
      | no => trivial
      | sh d => exact q
      | own d =>
        obtain ⟨q0, k1, k2, k3, k4⟩ := q
        have ne : q0 ≠ p := fun z => g.dj i j _ _ p q0 e hi hx hs k1 z.symm
        exact ⟨q0, k1, k2, k3, k4.mono (Sub.refl G) (upd_ne ne)⟩
  · have ne : a ≠ p := fun z => ha (by rw [z]; exact hf)
    rw [upd_ne ne]; exact g.sp.kp a ha ht
  · rcases set_own k1 with ⟨e, _, _⟩ | ⟨_, k1⟩
    · subst e
      exact g.fr _ d0 q hi k2
    · exact g.fr j d' q k1 k2
  · have o1 : ∃ da', ρ[a]? = some (.own da') := by
      rcases set_own k1 with ⟨e, _, _⟩ | ⟨_, k1⟩
      · exact ⟨d0, by rw [e]; exact hi⟩
      · exact ⟨da, k1⟩
    have o2 : ∃ db', ρ[b]? = some (.own db') := by
      rcases set_own k2 with ⟨e, _, _⟩ | ⟨_, k2⟩
      · exact ⟨d0, by rw [e]; exact hi⟩
      · exact ⟨db, k2⟩
    obtain ⟨da', o1⟩ := o1
    obtain ⟨db', o2⟩ := o2
    exact g.dj a b da' db' q q' ne o1 o2 k3 k4
/-- one of one's own goes to the known part -/
theorem GI.know (g : GI c Ge He G σ ρ H ds) {i : Nat} {d : D} (hi : ρ[i]? = some (.own d)) : ∃ G', Sub G G' ∧ GI c Ge He G' σ (ρ.set i (.sh d)) H ds := by
  obtain ⟨p, hs, hg, hT, t, hf⟩ := g.ownAt hi
  obtain ⟨o, ho, r⟩ := t.know hg
  have il : i < ρ.length := by
    rw [List.getElem?_eq_some_iff] at hi
    exact hi.1
  refine ⟨_, Sub.upd hg, ⟨⟨by rw [List.length_set]; exact g.ei.ln, g.ei.on.know ho, fun a ha => ?_, g.ei.st, fun j x hx => ?_⟩, g.sp.know hg hf, fun j d' q k1 k2 => ?_, fun a b da db q q' ne k1 k2 k3 k4 => ?_⟩⟩
  · have ne : a ≠ p := fun z => hT (by rw [← z]; exact ha)
    rw [upd_ne ne]; exact g.ei.tn a ha
  · by_cases e : i = j
    · subst e
      rw [List.getElem?_set_self il] at hx
      cases hx
      exact ⟨_, hs, r⟩
    · rw [List.getElem?_set_ne e] at hx
      have q := g.ei.sl j x hx
      cases x with
      | no => trivial
      | sh d =>
        obtain ⟨v, k1, k2⟩ := q
        exact ⟨v, k1, k2.mono (Sub.upd hg)⟩
      | own d =>
        obtain ⟨q0, k1, k2, k3, k4⟩ := q
        have ne : q0 ≠ p := fun z => g.dj i j _ _ p q0 e hi hx hs k1 z.symm
        exact ⟨q0, k1, by rw [upd_ne ne]; exact k2, k3, k4.mono (Sub.upd hg) rfl⟩
  · rcases set_own k1 with ⟨_, e, _⟩ | ⟨_, k1⟩
    · cases e
    · exact g.fr j d' q k1 k2
  · rcases set_own k1 with ⟨_, e, _⟩ | ⟨_, k1⟩
    · cases e
    · rcases set_own k2 with ⟨_, e, _⟩ | ⟨_, k2⟩
      · cases e
      · exact g.dj a b da db q q' ne k1 k2 k3 k4
theorem GI.frz : ∀ (is : List Nat) {G : Hp} {ρ : Env}, GI c Ge He G σ ρ H ds → ∃ G', Sub G G' ∧ GI c Ge He G' σ (frzE ρ is) H ds
  | [], G, ρ, g => ⟨G, Sub.refl G, g⟩
  | i :: r, G, ρ, g => by
    unfold frzE
    split
    · rename_i d hd
      obtain ⟨G1, s1, g1⟩ := g.know hd
      obtain ⟨G2, s2, g2⟩ := GI.frz r g1
      exact ⟨G2, s1.trans s2, g2⟩
    · exact GI.frz r g
mutual
theorem asgP_own : ∀ (p : Pt) {d : D} {ρ ρ1 : Env} {j : Nat} {d' : D}, asgP p d ρ = some ρ1 → ρ1[j]? = some (.own d') → ρ[j]? = some (.own d') ∧ j ∉ p.slots
  | .n i, d, ρ, ρ1, j, d', h, hj => by
    simp only [asgP, Option.some.injEq] at h
    subst h
    rcases set_own hj with ⟨_, e, _⟩ | ⟨ne, hj⟩
    · cases e
    · exact ⟨hj, by simpa [Pt.slots] using ne⟩
  | .t ps, d, ρ, ρ1, j, d', h, hj => by
    cases d with
    | tup dd =>
      simp only [asgP] at h
      obtain ⟨h1, h2⟩ := asgPs_own ps h hj
      exact ⟨h1, by simpa [Pt.slots] using h2⟩
    | _ => simp [asgP] at h
  | .nil, _, _, _, _, _, h, _ => by simp [asgP] at h
  | .cons _ _, _, _, _, _, _, h, _ => by simp [asgP] at h
theorem asgPs_own : ∀ (p : Pt) {dd : List D} {ρ ρ1 : Env} {j : Nat} {d' : D}, asgP.asgPs p dd ρ = some ρ1 → ρ1[j]? = some (.own d') → ρ[j]? = some (.own d') ∧ j ∉ p.slots
  | .n _, dd, _, _, _, _, h, _ => by cases dd <;> simp [asgP.asgPs] at h
  | .t _, dd, _, _, _, _, h, _ => by cases dd <;> simp [asgP.asgPs] at h
  | .nil, dd, ρ, ρ1, j, d', h, hj => by
    cases dd with
    | nil =>
      simp only [asgP.asgPs, Option.some.injEq] at h
      subst h
      exact ⟨hj, by simp [Pt.slots]⟩
    | cons _ _ => simp [asgP.asgPs] at h
  | .cons p r, dd, ρ, ρ1, j, d', h, hj => by
    cases dd with
    | nil => simp [asgP.asgPs] at h
    | cons d dd =>
      simp only [asgP.asgPs, Option.bind_eq_some_iff] at h
      obtain ⟨ρ2, h1, h2⟩ := h
      obtain ⟨k1, k2⟩ := asgPs_own r h2 hj
      obtain ⟨k3, k4⟩ := asgP_own p h1 k1
      exact ⟨k3, by simp [Pt.slots, k2, k4]⟩
end
theorem agree_at {vs : List Nat} {σ σ2 : L2.St} (a : Agree vs σ σ2) {j : Nat} (h : j ∉ vs) : σ2[j]? = σ[j]? := by
  have q := congrArg (fun l => l[j]?) (a vs fun i hi => hi)
  simp only [wipe_get, h, if_false] at q
  exact q
/-- a known thing is taken apart -/
theorem GI.tg {K : PySem.W.Frag} (g : GI c Ge He G σ ρ H ds) {p : Pt} {ρ1 : Env} {x : V} {d : D} {Q : L2.St → Hp → Prop} (r : Rep c G x d) (h : asgP p d ρ = some ρ1) (k : ∀ σ2, Agree p.slots σ σ2 → GI c Ge He G σ2 ρ1 H ds → Q σ2 H) : tG K p x σ H Q :=
  tG_wp p g.ei r h fun σ2 a e => k σ2 a ⟨e, g.sp, fun j d' q k1 k2 => by
    obtain ⟨m1, m2⟩ := asgP_own p h k1
    rw [agree_at a m2] at k2
    exact g.fr j d' q m1 k2, fun i j di dj q q' ne k1 k2 k3 k4 => by
    obtain ⟨m1, m2⟩ := asgP_own p h k1
    obtain ⟨m3, m4⟩ := asgP_own p h k2
    rw [agree_at a m2] at k3
    rw [agree_at a m4] at k4
    exact g.dj i j di dj q q' ne m1 m3 k3 k4⟩
end
/-! ### readings -/
def PostS (c : Cg) (E0 : XK) (fr : Bool) (Ge He G : Hp) (D : Ends) (r : Out Fl) : Prop := match r with
  | .no => False
  | .er n d ds => ∀ G' H' dx v, On G' H' → Stp c.toCf Ge He G' H' → StO c.toCf H' ds → H' dx = some (.xd [(c.efl n, v)]) → Rep c.toCf G' v d → E0 (.ref (c.ecl n)) (some dx) H'
  | .ok (.nx ρ) ds => ∀ G' H' σ', GI c.toCf Ge He G' σ' ρ H' ds → Sub G G' → D.nx σ' H'
  | .ok (.bk ρ) ds => ∀ G' H' σ', GI c.toCf Ge He G' σ' ρ H' ds → Sub G G' → D.bk σ' H'
  | .ok (.ct ρ) ds => ∀ G' H' σ', GI c.toCf Ge He G' σ' ρ H' ds → Sub G G' → D.ct σ' H'
  | .ok (.rt d) ds => ∀ G' H' v, On G' H' → Stp c.toCf Ge He G' H' → StO c.toCf H' ds → RO c.toCf (if fr then .fr else .rep) He G' H' v d → D.rt v H'
theorem PostS.sub {c : Cg} {E0 : XK} {fr : Bool} {Ge He G G1 : Hp} {D : Ends} {r : Out Fl} (h : PostS c E0 fr Ge He G D r) (s : Sub G G1) : PostS c E0 fr Ge He G1 D r := by
  cases r with
  | no => exact h
  | er _ _ _ => exact h
  | ok fl ds =>
    cases fl with
    | rt d => exact h
    | nx ρ => exact fun G' H' σ' g z => h G' H' σ' g (s.trans z)
    | bk ρ => exact fun G' H' σ' g z => h G' H' σ' g (s.trans z)
    | ct ρ => exact fun G' H' σ' g z => h G' H' σ' g (s.trans z)
def tS (c : Cg) (E0 : XK) (fr : Bool) (Ge He : Hp) (ρ : Env) (o : DS → Out Fl) : TS := fun D σ H => ∃ G ds, GI c.toCf Ge He G σ ρ H ds ∧ PostS c E0 fr Ge He G D (o ds)
section
variable {c : Cg} {E0 : XK} {fr : Bool} {Ge He : Hp} {ρ : Env} {D : Ends} {σ : L2.St} {H : Hp} {m : Md}
/-- a statement that begins with something of its own -/
theorem tS_seq {α β : Type} {R1 : Hp → Hp → Hp → β → α → Prop} {o : DS → Out α} {f : α → DS → Out Fl} {R : β → Hp → Prop} {G : Hp} {ds : DS} (g : GI c.toCf Ge He G σ ρ H ds) (h : PostS c E0 fr Ge He G D ((o ds).bind f))
    (k : ∀ G1 H1 v d ds1, On G1 H1 → Stp c.toCf G H G1 H1 → StO c.toCf H1 ds1 → GI c.toCf Ge He G1 σ ρ H1 ds1 → R1 H G1 H1 v d → PostS c E0 fr Ge He G1 D (f d ds1) → R v H1) : PostG c E0 R1 G H (o ds) R := by
  cases q : o ds with
  | no => rw [q] at h; exact h
  | er n d dz =>
    rw [q] at h
    exact fun G' H' dx v n s t hx r => h G' H' dx v n (g.sp.trans g.ei.st s) t hx r
  | ok d dz =>
    rw [q] at h
    exact fun G1 H1 v n s t r => k G1 H1 v d dz n s t (g.step n s t) r (PostS.sub (r := f d dz) h s.ex)
theorem tS_E {o : DS → Out IR.D} {f : IR.D → DS → Out Fl} {R : VK} (h : tS c E0 fr Ge He ρ (fun ds => (o ds).bind f) D σ H)
    (k : ∀ G H1 G1 v d ds ds1, GI c.toCf Ge He G σ ρ H ds → On G1 H1 → Stp c.toCf G H G1 H1 → StO c.toCf H1 ds1 → GI c.toCf Ge He G1 σ ρ H1 ds1 → RO c.toCf m H G1 H1 v d → PostS c E0 fr Ge He G1 D (f d ds1) → R v H1) : tE c E0 m ρ o σ H R := by
  obtain ⟨G, ds, g, h⟩ := h
  exact ⟨G, ds, g.ei, tS_seq g h fun G1 H1 v d ds1 n s t g1 r p => k G H1 G1 v d ds ds1 g n s t g1 r p⟩
/-- a test -/
theorem tS_T {o : DS → Out IR.D} {f : DS → Bool → Out Fl} {R : Bool → Hp → Prop} (h : tS c E0 fr Ge He ρ (fun ds => (o ds).bind fun x s => onB x (f s)) D σ H)
    (k : ∀ G1 H1 b ds1, GI c.toCf Ge He G1 σ ρ H1 ds1 → PostS c E0 fr Ge He G1 D (f ds1 b) → R b H1) : tT c E0 ρ o σ H R := by
  obtain ⟨G, ds, g, h⟩ := h
  refine ⟨G, ds, g.ei, ?_⟩
  show Post c E0 .rd G H ((o ds).bind boolO) _
  replace h : PostS c E0 fr Ge He G D ((o ds).bind fun x s => onB x (f s)) := h
  cases q : o ds with
  | no => rw [q] at h; exact h
  | er n d dz =>
    rw [q] at h
    exact fun G' H' dx v n s t hx r => h G' H' dx v n (g.sp.trans g.ei.st s) t hx r
  | ok d dz =>
    rw [q] at h
    cases d with
    | bl b =>
      show Post c E0 .rd G H (.ok (.bl b) dz) _
      intro G1 H1 v n s t r
      exact ⟨b, ro_bl r, k G1 H1 b dz (g.step n s t) (PostS.sub (r := f dz b) h s.ex)⟩
    | _ => exact h.elim
end
end IR
end
section
set_option Elab.async false
set_option linter.all false
set_option maxRecDepth 100000
set_option maxHeartbeats 4100000
namespace IR
open L2 PySem PySem.Spec PyProof.Rows
structure StCx (Γ : Gm) (c : Cg) (cf : Nat → List D → DS → Out D) (ar : Nat → Nat) (k : Nat) (N : List Str) (sc : Scope) (E0 : XK) (X : Cx) : Prop extends CxOk Γ c cf ar k N sc E0 X where
  fs : ∀ x, X.fn x = true
  po : PassesOwn (model X.prog X.w) X.A X.env X.xe
  kd : X.env.scope.kind = .function
/-! ### several at once -/
inductive RFs (c : Cf) (G H : Hp) : List V → List Slot → List Addr → Prop
  | nil : RFs c G H [] [] []
  | sh {v : V} {d : D} {vs : List V} {xs : List Slot} {fs : List Addr} (r : Rep c G v d) (q : RFs c G H vs xs fs) : RFs c G H (v :: vs) (.sh d :: xs) fs
  | own {p : Addr} {d : D} {vs : List V} {xs : List Slot} {fs : List Addr} (hg : G p = none) (ht : ¬ inT c p) (t : Top c G H p d) (hn : p ∉ fs) (q : RFs c G H vs xs fs) : RFs c G H (.ref p :: vs) (.own d :: xs) (p :: fs)
def RP (c : Cf) : Hp → Hp → Hp → List V → List Slot → Prop := fun H0 G H vs xs => ∃ fs, RFs c G H vs xs fs ∧ ∀ q ∈ fs, H0 q = none
theorem mono_rp (c : Cf) : MonoR (RP c) := fun H H1 G' H' v a f ⟨fs, r, h⟩ => ⟨fs, r, fun q hq => f q (h q hq)⟩
theorem RFs.keep {c : Cf} {G H G' H' : Hp} (s : Stp c G H G' H') : ∀ {vs : List V} {xs : List Slot} {fs : List Addr}, RFs c G H vs xs fs → RFs c G' H' vs xs fs
  | _, _, _, .nil => .nil
  | _, _, _, .sh r q => .sh (r.mono s.ex) (q.keep s)
  | _, _, _, .own hg ht t hn q => .own (s.nw _ t.there hg) ht (t.mono s.ex (s.kp _ t.there ht)) hn (q.keep s)
theorem RFs.len {c : Cf} {G H : Hp} : ∀ {vs : List V} {xs : List Slot} {fs : List Addr}, RFs c G H vs xs fs → vs.length = xs.length
  | _, _, _, .nil => rfl
  | _, _, _, .sh _ q => by simp [q.len]
  | _, _, _, .own _ _ _ _ q => by simp [q.len]
def tP (c : Cg) (E0 : XK) (ρ : Env) (o : DS → Out (List Slot)) : TA := fun σ H Q => ∃ G ds, EI c.toCf G σ ρ H ds ∧ PostG c E0 (RP c.toCf) G H (o ds) Q
def setS : List Nat → List V → L2.St → L2.St
  | i :: is, v :: vs, σ => setS is vs (σ.set i (some v))
  | _, _, σ => σ
section
variable {c : Cf} {Ge He H : Hp} {ds : DS}
theorem GI.setL : ∀ {is : List Nat} {vs : List V} {xs : List Slot} {fs : List Addr} {G : Hp} {σ : L2.St} {ρ ρ1 : Env}, GI c Ge He G σ ρ H ds → RFs c G H vs xs fs → (∀ q ∈ fs, He q = none) → (∀ (j : Nat) (d' : D) (q : Addr), ρ[j]? = some (Slot.own d') → σ[j]? = some (some (V.ref q)) → q ∉ fs) →
    IR.setL is xs ρ = some ρ1 → GI c Ge He G (setS is vs σ) ρ1 H ds
  | [], _, _, _, G, σ, ρ, ρ1, g, .nil, _, _, h => by
    simp only [IR.setL, Option.some.injEq] at h
    subst h
    exact g
  | [], _, _, _, G, σ, ρ, ρ1, g, .sh _ _, _, _, h => by simp [IR.setL] at h
  | [], _, _, _, G, σ, ρ, ρ1, g, .own _ _ _ _ _, _, _, h => by simp [IR.setL] at h
  | i :: is, _, _, _, G, σ, ρ, ρ1, g, .nil, _, _, h => by simp [IR.setL] at h
  | i :: is, _, _, _, G, σ, ρ, ρ1, g, .sh r q, hf, hd, h => by
    simp only [IR.setL] at h
    refine GI.setL (is := is) (g.sh (i := i) r) q hf (fun j d' p k1 k2 => ?_) h
    rcases set_own k1 with ⟨_, e, _⟩ | ⟨ne, k1⟩
    · cases e
    · rw [List.getElem?_set_ne (Ne.symm ne)] at k2
      exact hd j d' p k1 k2
  | i :: is, _, _, _, G, σ, ρ, ρ1, g, .own (p := p) (d := d) (fs := fs) hg ht t hn q, hf, hd, h => by
    simp only [IR.setL] at h
    refine GI.setL (is := is) (g.own (i := i) (hf p List.mem_cons_self) hg ht t fun j d' q0 _ k1 k2 e => hd j d' q0 k1 k2 (by rw [e]; exact List.mem_cons_self)) q (fun q0 hq => hf q0 (List.mem_cons_of_mem _ hq)) (fun j d' q0 k1 k2 => ?_) h
    rcases set_own k1 with ⟨e, _, hl⟩ | ⟨ne, k1⟩
    · subst e
      rw [List.getElem?_set_self (by rw [← g.ei.ln]; exact hl)] at k2
      cases k2
      exact hn
    · rw [List.getElem?_set_ne (Ne.symm ne)] at k2
      exact fun m => hd j d' q0 k1 k2 (List.mem_cons_of_mem _ m)
end
def gNs : List Nat → TGs
  | [] => gNil
  | i :: is => gCons (gName i) (gNs is)
theorem gNs_wp : ∀ {is : List Nat} {vs : List V} {σ : L2.St} {H : Hp} {Q : L2.St → Hp → Prop}, vs.length = is.length → Q (setS is vs σ) H → gNs is vs σ H Q
  | [], [], σ, H, Q, _, q => ⟨rfl, q⟩
  | [], _ :: _, _, _, _, h, _ => by simp at h
  | _ :: _, [], _, _, _, h, _ => by simp at h
  | i :: is, v :: vs, σ, H, Q, h, q => ⟨v, vs, rfl, gNs_wp (by simpa using h) q⟩
theorem setL_len : ∀ {is : List Nat} {xs : List Slot} {ρ ρ1 : Env}, setL is xs ρ = some ρ1 → is.length = xs.length
  | [], [], _, _, _ => rfl
  | [], _ :: _, _, _, h => by simp [setL] at h
  | _ :: _, [], _, _, h => by simp [setL] at h
  | i :: is, x :: xs, ρ, ρ1, h => by
    simp only [setL] at h
    simp [setL_len h]
section
variable {Γ : Gm} {c : Cg} {cf : Nat → List D → DS → Out D} {ar : Nat → Nat} {k : Nat} {N : List Str} {sc : Scope} {E0 : XK} {X : Cx} {ρ : Env} {fr : Bool} {Ge He : Hp}
theorem pa_evp : ∀ {es : Es} {xs : List PySem.Expr} (hX : CxOk Γ c cf ar k N sc E0 X), chks Γ N sc true es xs = true → PA X xs (tP c E0 ρ (evp Γ cf es ρ))
  | .nil, [], hX, h => pa_imp pa_nil fun σ H Q ⟨G, ds, e, h⟩ => h G H [] e.on (Stp.refl _ _ _) e.st ⟨[], .nil, fun q hq => by cases hq⟩
  | .nil, _ :: _, hX, h => by simp [chks] at h
  | .cons _ _, [], hX, h => by simp [chks] at h
  | .cons e r, x :: xs, hX, h => by
    simp only [chks, Bool.and_eq_true] at h
    (obtain ⟨⟨⟨h1, h2⟩, h3⟩, h4⟩ := h)
    have hm : mdOf Γ e ≠ .rd := by simpa using h3
    refine pa_imp (pa_cons (s_E (ρ := ρ) e hX h1).pe (pa_evp hX h4) (star_cons h2)) fun σ H Q ⟨G, ds, e0, h⟩ => ?_
    simp only [evp] at h
    refine ⟨G, ds, e0, ?_⟩
    cases q1 : ev Γ cf e ρ ds with
    | no => rw [q1] at h; exact h
    | er n d dz => rw [q1] at h; exact h
    | ok d ds1 =>
    rw [q1] at h
    have h : PostG c E0 (RP c.toCf) G H ((evp Γ cf r ρ ds1).bind fun xs s => .ok (mkSlot (mdOf Γ e) d :: xs) s) Q := h
    intro G1 H1 y n1 s1 t1 r1
    have e1 := e0.step n1 s1 t1
    refine ⟨G1, ds1, e1, ?_⟩
    cases q2 : evp Γ cf r ρ ds1 with
    | no => rw [q2] at h; exact h
    | er n d dz =>
      rw [q2] at h
      exact fun G' H' dx v n s t hx r => h G' H' dx v n (s1.trans t1 s) t hx r
    | ok slots ds2 =>
    rw [q2] at h
    intro G2 H2 ys n2 s2 t2 r2
    refine h G2 H2 _ n2 (s1.trans t1 s2) t2 ?_
    obtain ⟨fs, q1, q2⟩ := r2
    unfold mkSlot
    split
    · rename_i hq
      obtain ⟨em, hc⟩ := hq
      rw [em] at r1
      rcases r1 with ⟨_, r1⟩ | ⟨p, rfl, k2, k3, k4, k5⟩
      · rw [hc] at r1; cases r1
      · refine ⟨p :: fs, .own (s2.nw p k5.there k3) k4 (k5.mono s2.ex (s2.kp p k5.there k4)) (fun m => k5.there (q2 p m)) q1, fun q hq => ?_⟩
        (rcases List.mem_cons.mp hq with rfl | hq)
        · exact k2
        · exact s1.fresh t1 (q2 q hq)
    · rename_i hq
      refine ⟨fs, .sh ?_ q1, fun q hq' => s1.fresh t1 (q2 q hq')⟩
      cases hmd : mdOf Γ e with
      | rd => exact absurd hmd hm
      | rep => rw [hmd] at r1; exact Rep.mono s2.ex r1
      | fr =>
        rw [hmd] at r1 hq
        rcases r1 with ⟨r1, _⟩ | ⟨p, rfl, k2, k3, k4, k5⟩
        · exact r1.mono s2.ex
        · refine absurd ⟨rfl, ?_⟩ hq
          cases k5 <;> rfl
theorem ps_imp {st : Stmt} {t t' : TS} (h : PS X st t) (hi : ∀ D σ H, t' D σ H → t D σ H) : PS X st t' := ⟨fun pins s σ H D I q => h.run pins s σ H D I (hi D σ H q)⟩
theorem pss_imp {st : List Stmt} {t t' : TS} (h : PSs X st t) (hi : ∀ D σ H, t' D σ H → t D σ H) : PSs X st t' := ⟨fun pins s σ H D I q => h.run pins s σ H D I (hi D σ H q)⟩
theorem ps_or {st : Stmt} {t t' : TS} (h : PS X st t) (h' : PS X st t') : PS X st (fun D σ H => t D σ H ∨ t' D σ H) := ⟨fun pins s σ H D I q => q.elim (h.run pins s σ H D I) (h'.run pins s σ H D I)⟩
theorem pset_or {t t' : TSet} (h : PSet X t) (h' : PSet X t') : PSet X (fun o i v H Q => t o i v H Q ∨ t' o i v H Q) := fun pins s σ H o i v ov iv u Q I r1 r2 r3 q => q.elim (h pins s σ H o i v ov iv u Q I r1 r2 r3) (h' pins s σ H o i v ov iv u Q I r1 r2 r3)
/-- the readings of statements -/
abbrev tX (c : Cg) (E0 : XK) (fr : Bool) (Ge He : Hp) (o : Env → DS → Out Fl) : TS := fun D σ H => ∃ ρ, tS c E0 fr Ge He ρ (o ρ) D σ H
variable {W : Nat}
theorem st_skip {st : Stmt} (h : chkS Γ N sc .skip st = true) : PS X st (tX c E0 fr Ge He (exec Γ cf fr W .skip)) := by
  have go : ∀ D σ H, tX c E0 fr Ge He (exec Γ cf fr W .skip) D σ H → tNext D σ H := fun D σ H ⟨ρ, G, ds, g, p⟩ => by
    simp only [exec] at p
    exact p G H σ g (Sub.refl G)
  unfold chkS at h
  split at h <;> first | (cases h; done) | skip
  all_goals first | exact ps_imp ps_pass go | exact ps_imp ps_doc go | (rename_i hq _; cases hq; done) | (rename_i hq; cases hq; done)
end
end IR
end
section
set_option Elab.async false
set_option linter.all false
set_option maxRecDepth 100000
set_option maxHeartbeats 4100000
namespace IR
open L2 PySem PySem.Spec PyProof.Rows
section
variable {Γ : Gm} {c : Cg} {cf : Nat → List D → DS → Out D} {ar : Nat → Nat} {k : Nat} {N : List Str} {sc : Scope} {E0 : XK} {X : Cx} {ρ : Env} {fr : Bool} {Ge He : Hp} {W : Nat}
theorem ps_ex {st : Stmt} {t : Env → TS} (h : ∀ ρ, PS X st (t ρ)) : PS X st (fun D σ H => ∃ ρ, t ρ D σ H) := ⟨fun pins s σ H D I ⟨ρ, q⟩ => (h ρ).run pins s σ H D I q⟩
theorem sw_not {y : PySem.Expr} {t : Option PySem.Expr} {l : Nat} {env : PySem.Env} (h : notComp y = true) : swapsWith y t l env = pure false := by
  cases y <;> first | rfl | (simp [notComp] at h)
theorem sw_lc {elt : PySem.Expr} {gs : List Comprehension} {scope : Scope} {pos py : Pos} {y : Str} {l : Nat} {env : PySem.Env} : swapsWith (.ListComp elt gs scope pos) (some (.Name y py)) l env = pure (env.blockKind == .function && env.kindOf y == some .local && py.line == pos.line && !(scope.names.any fun (n, k) => n == y && (k == .local || k == .cell))) := rfl
/-- what the rule of a comprehension wants -/
theorem lc_parts {e : E} {elt : PySem.Expr} {scope : Scope} {pos : Pos} {gs : List Comprehension} (hX : CxOk Γ c cf ar k N sc E0 X) (h : chk Γ N sc e (.ListComp elt gs scope pos) = true) :
    ∃ (own : List (Str × Nat)) (tg iter : PySem.Expr) (ifs : List PySem.Expr) (wi : TI) (g : TG) (tt : TT) (te : TE), gs = [⟨tg, iter, ifs, 0⟩] ∧ mdOf Γ e = .fr ∧ PI X tg iter wi ∧ BlkOk X.N X.env.scope scope own ∧
      (∀ (s : Shared) (H : Hp) (C : Addr) (cl : List (Str × Addr)) (fp : List Addr), PG (X.blk s H scope (compEnvC scope cl C X.env) fp) tg g) ∧ (∀ (s : Shared) (H : Hp) (C : Addr) (cl : List (Str × Addr)) (fp : List Addr), PTs (X.blk s H scope (compEnvC scope cl C X.env) fp) ifs tt) ∧
      (∀ (s : Shared) (H : Hp) (C : Addr) (cl : List (Str × Addr)) (fp : List Addr), PE (X.blk s H scope (compEnvC scope cl C X.env) fp) elt te) ∧ (∀ x, foldedSetIterable iter X.env x = pure x) ∧
      ∀ σ H Q, tE c E0 .fr ρ (ev Γ cf e ρ) σ H Q → tLc wi g tt te (own.map (·.2)) σ H Q := by
  have h0 := h
  unfold chk at h
  split at h <;> first | (cases h; done) | skip
  all_goals first | (rename_i hq _ ; cases hq; done) | (rename_i hq; cases hq; done) | skip
  rename_i own elt' p it cnd e' tg iter ifs nn scope' pp heq
  cases heq
  (simp only [Bool.and_eq_true] at h)
  (obtain ⟨⟨⟨⟨⟨⟨⟨⟨h1, h2⟩, h3⟩, h4⟩, h5⟩, h6⟩, h7⟩, h8⟩, h9⟩ := h)
  have en := of_decide_eq_true h1
  subst en
  obtain ⟨q1, q2⟩ := s_It (ρ := ρ) it hX h2
  have own_eq : (ownNames N own).map (·.2) = own := of_decide_eq_true h4
  have ok : BlkOk X.N X.env.scope scope (ownNames N own) := by rw [hX.hN, hX.hsc]; exact blkOk_by h3
  have hp : ∀ i ∈ p.slots, i ∈ own := by
    intro i hi
    have := List.all_eq_true.mp h6 i hi
    simpa using this
  refine ⟨ownNames N own, tg, iter, ifs, _, tG X.K p, fun σ H Q => ∃ ρ, tT c (fun _ _ _ => False) ρ (cndO Γ cf cnd ρ) σ H Q, fun σ H Q => ∃ ρ, tE c (fun _ _ _ => False) .rep ρ (ev Γ cf elt' ρ) σ H Q, rfl, rfl, q1, ok, ?_, ?_, ?_, q2, ?_⟩
  · intro s H C cl fp
    exact pg_pt (X := X.blk s H scope (compEnvC scope cl C X.env) fp) hX.hN hX.nd hX.calm blk_loc p h5
  · intro s H C cl fp
    have hX' := blk_cx (scope := scope) (s := s) (H := H) (C := C) (cl := cl) (fp := fp) hX
    refine pts_ex fun ρ' => ?_
    split at h9
    · have h9 : cnd.isNop = true := h9
      unfold cndO
      simp only [h9, if_true]
      exact pts_none
    · simp only [Bool.and_eq_true, Bool.not_eq_true'] at h9
      obtain ⟨⟨k1, k2⟩, k3⟩ := h9
      unfold cndO
      simp only [k1, Bool.false_eq_true, if_false]
      exact pts_one ((s_E (ρ := ρ') cnd hX' k2).pt k3)
    · cases h9
  · intro s H C cl fp
    have hX' := blk_cx (scope := scope) (s := s) (H := H) (C := C) (cl := cl) (fp := fp) hX
    exact pe_ex fun ρ' => (s_E (ρ := ρ') elt' hX' h7).rep (of_decide_eq_true h8)
  · intro σ H Q hh
    rw [own_eq]
    exact lc_wp hp hh
theorem asg_wp {i : Nat} {e : E} (hm : mdOf Γ e ≠ .rd) {D : Ends} {σ : L2.St} {H : Hp} (h : tS c E0 fr Ge He ρ (exec Γ cf fr W (.asg i e) ρ) D σ H) : tE c E0 (mdOf Γ e) ρ (ev Γ cf e ρ) σ H (fun x H1 => gName i x σ H1 D.nx) := by
  have h : tS c E0 fr Ge He ρ (fun ds => (ev Γ cf e ρ ds).bind fun d s => .ok (.nx (ρ.set i (mkSlot (mdOf Γ e) d))) s) D σ H := by
    obtain ⟨G, ds, g, p⟩ := h
    simp only [exec] at p
    exact ⟨G, ds, g, p⟩
  refine tS_E (m := mdOf Γ e) h fun G H1 G1 v d ds ds1 g n s t g1 r p => ?_
  exact p G1 H1 _ (g.asg n s t r hm) (Sub.refl _)
theorem st_asg {i : Nat} {e : E} {st : Stmt} (hX : StCx Γ c cf ar k N sc E0 X) (h : chkS Γ N sc (.asg i e) st = true) : PS X st (tX c E0 fr Ge He (exec Γ cf fr W (.asg i e))) := by
  unfold chkS at h
  split at h <;> first | (cases h; done) | skip
  all_goals first | (rename_i hq _ ; cases hq; done) | (rename_i hq; cases hq; done) | skip
  rename_i i' e' x px y sp heq
  cases heq
  (simp only [Bool.and_eq_true] at h)
  obtain ⟨⟨⟨⟨h1, h2⟩, h3⟩, h4⟩, h5⟩ := h
  have hm := of_decide_eq_true h4
  have hi : X.N[i]? = some x := by rw [hX.hN]; exact of_decide_eq_true h1
  have nd : X.N.Nodup := by rw [hX.hN]; exact hX.nd
  refine ps_ex fun ρ => ?_
  have plain : swapsWith y (some (.Name x px)) sp.line X.env = pure false → PS X (.Assign [.Name x px] y sp) (tS c E0 fr Ge He ρ (exec Γ cf fr W (.asg i e) ρ)) := fun hs =>
    ps_imp (ps_set nd hi (loc_of hX.toCxOk h2) (s_E (ρ := ρ) e hX.toCxOk h3).pe hs (.inl (hX.fs x))) fun D σ H q => asg_wp hm q
  split at h5
  · rename_i elt gs scope pos
    rw [sw_lc] at plain
    cases hb : (X.env.blockKind == .function && X.env.kindOf x == some .local && px.line == pos.line && !(scope.names.any fun (n, k) => n == x && (k == .local || k == .cell))) with
    | false => exact plain (by rw [hb])
    | true =>
      obtain ⟨own, tg, iter, ifs, wi, g, tt, te, egs, em, q1, q2, q3, q4, q5, q6, q7⟩ := lc_parts (ρ := ρ) hX.toCxOk h3
      subst egs
      have hl : X.env.scope.names.lookup x = some .local := by
        simp only [Bool.and_eq_true] at hb
        have := hb.1.1.2
        simpa [Env.kindOf] using this
      refine ps_imp (ps_setLc hX.calm nd hi hl (by rw [sw_lc, hb]) q1 q2 q3 q4 q5 q6) fun D σ H q => ?_
      have q' := asg_wp hm q
      rw [em] at q'
      exact q7 _ _ _ q'
  · exact plain (sw_not h5)
end
end IR
end
section
set_option Elab.async false
set_option linter.all false
set_option maxRecDepth 100000
set_option maxHeartbeats 4100000
namespace IR
open L2 PySem PySem.Spec PyProof.Rows
section
variable {Γ : Gm} {c : Cg} {cf : Nat → List D → DS → Out D} {ar : Nat → Nat} {k : Nat} {N : List Str} {sc : Scope} {E0 : XK} {X : Cx} {ρ : Env} {fr : Bool} {Ge He : Hp} {W : Nat}
/-! ### several names -/
theorem par_wp {is : List Nat} {es : Es} {D : Ends} {σ : L2.St} {H : Hp} (hn : is.Nodup) (h : tS c E0 fr Ge He ρ (exec Γ cf fr W (.par is es) ρ) D σ H) :
    tP c E0 ρ (evp Γ cf es ρ) σ H (fun vs H1 => vs.length = is.length ∧ D.nx (setS is vs σ) H1 ∧ ∀ p ob, H1 p = none → D.nx (setS is vs σ) (upd H1 p ob)) := by
  obtain ⟨G, ds, g, p⟩ := h
  simp only [exec] at p
  refine ⟨G, ds, g.ei, tS_seq (f := fun xs s => (match setL is xs ρ with
    | some ρ1 => .ok (.nx ρ1) s
    | none => .no)) g p fun G1 H1 vs xs ds1 n s t g1 r q => ?_⟩
  obtain ⟨fs, r1, r2⟩ := r
  cases hl : setL is xs ρ with
  | none => rw [hl] at q; exact q.elim
  | some ρ1 =>
    rw [hl] at q
    have q : PostS c E0 fr Ge He G1 D (.ok (.nx ρ1) ds1) := q
    have hf : ∀ q ∈ fs, He q = none := fun q hq => g.sp.fresh g.ei.st (r2 q hq)
    have hd : ∀ (j : Nat) (d' : IR.D) (q : Addr), ρ[j]? = some (Slot.own d') → σ[j]? = some (some (V.ref q)) → q ∉ fs := fun j d' q k1 k2 m => by
      obtain ⟨p', k3, _, _, k5⟩ := g.ei.sl j _ k1
      rw [k2] at k3
      cases k3
      exact k5.there (r2 q m)
    refine ⟨by rw [r1.len, setL_len hl], q G1 H1 _ (g1.setL r1 hf hd hl) (Sub.refl _), fun p ob hp => ?_⟩
    have st := Stp.alloc (c := c.toCf) (G := G1) (o := ob) hp
    have g2 := g1.step (g1.ei.on.alloc hp) st (g1.ei.st.alloc hp)
    exact q G1 _ _ (g2.setL (r1.keep st) hf hd hl) (Sub.refl _)
theorem pgs_names (hX : StCx Γ c cf ar k N sc E0 X) : ∀ {is : List Nat} {ts : List PySem.Expr}, parNames N sc is ts = true → PGs X ts (gNs is) ∧ (assignEach ts X.env).length = is.length ∧ (assignEach ts X.env).findIdx? (·.1) = none
  | [], [], _ => ⟨pgs_nil, rfl, rfl⟩
  | [], _ :: _, h => by simp [parNames] at h
  | _ :: _, [], h => by simp [parNames] at h
  | i :: is, t :: ts, h => by
    cases t <;> first | (simp [parNames] at h; done) | skip
    simp only [parNames, Bool.and_eq_true] at h
    obtain ⟨⟨h1, h2⟩, h3⟩ := h
    obtain ⟨q1, q2, q3⟩ := pgs_names hX h3
    refine ⟨pgs_cons (pg_name (by rw [hX.hN]; exact hX.nd) (by rw [hX.hN]; exact of_decide_eq_true h1) (loc_of hX.toCxOk h2) (.inl (hX.fs _))) q1 (by rfl), ?_, ?_⟩
    · show (assignEach (_ :: ts) X.env).length = _
      rw [each_cons rfl, List.length_cons, q2]; rfl
    · rw [each_cons rfl, List.findIdx?_cons, q3]; rfl
theorem only_of {x : Str} (hX : CxOk Γ c cf ar k N sc E0 X) (h : onlyLoc sc x = true) : X.env.scope.names.lookup x = some .local := by
  rw [hX.hsc]
  unfold onlyLoc at h
  split at h
  · assumption
  · cases h
theorem kind_not {x : Str} (hX : CxOk Γ c cf ar k N sc E0 X) (h : onlyLoc sc x = false) : (X.env.kindOf x == some NameKind.local) = false := by
  show (X.env.scope.names.lookup x == some NameKind.local) = false
  rw [hX.hsc]
  unfold onlyLoc at h
  cases q : sc.names.lookup x with
  | none => rfl
  | some kd => rw [q] at h; cases kd <;> first | rfl | (cases h)
theorem block_of (hX : StCx Γ c cf ar k N sc E0 X) : X.env.blockKind = .function := by unfold Env.blockKind; rw [hX.kd]; rfl
theorem star_no {a : PySem.Expr} (h : noStar a = true) : (match a with | .Starred _ _ => true | _ => false) = false := by
  cases a <;> first | rfl | (simp [noStar] at h)
theorem any_no {vs : List PySem.Expr} (h : ∀ e ∈ vs, noStar e = true) : (vs.any fun | .Starred .. => true | _ => false) = false := by
  rw [List.any_eq_false]
  intro e he
  have := h e he
  cases e <;> first | (simp; done) | (simp [noStar] at this)
/-- the names that are stored from the right -/
def swN (env : PySem.Env) (ts : List PySem.Expr) : List Str := ts.filterMap fun
    | .Name id pos => if env.kindOf id == some .local && pos.line == (ts.head?.map (·.pos.line)).getD 0 then some id else none
    | _ => none
theorem sw_gen {env : PySem.Env} {ts vs : List PySem.Expr} {pt pv : Pos} {kt kv} (bk : env.blockKind = .function) (st : ∀ e ∈ vs, noStar e = true) (hl : ts.length = 2 ∨ ts.length = 3) (hl2 : vs.length = ts.length) :
    swappedStores [.Tuple ts kt pt] (.Tuple vs kv pv) env = (if ((swN env ts).length != ts.length || (swN env ts).eraseDups.length != (swN env ts).length) = true then pure none else if vs.all (foldedForSure 8) = true then pure none else if vs.all (constantsAlone 8) = true then (do unsupported "assign.tuple-of-constant-expressions:order-of-the-stores"; return some (swN env ts)) else pure (some (swN env ts))) := by
  unfold swappedStores
  dsimp only
  split
  · rename_i h
    rw [bk, hl2] at h
    rcases hl with e | e <;> (rw [e] at h; simp at h)
  · split
    · rename_i h
      exact absurd h (by rw [Bool.not_eq_true]; exact any_no st)
    · rfl
theorem fm_lt {α β : Type} {f : α → Option β} : ∀ {l : List α} {a : α}, a ∈ l → f a = none → (l.filterMap f).length < l.length
  | [], a, h, _ => by cases h
  | b :: l, a, h, hf => by
    rw [List.filterMap_cons]
    (rcases List.mem_cons.mp h with rfl | h)
    · rw [hf]
      have := List.length_filterMap_le f l
      (simp only [List.length_cons]; omega)
    · have := fm_lt h hf
      cases f b with
      | none => simp only [List.length_cons]; omega
      | some _ => simp only [List.length_cons]; omega
theorem sw_none {env : PySem.Env} {ts vs : List PySem.Expr} {pt pv : Pos} {kt kv} (bk : env.blockKind = .function) (st : ∀ e ∈ vs, noStar e = true) (hl : ts.length = 2 ∨ ts.length = 3) (hl2 : vs.length = ts.length)
    (h : (∃ x p, PySem.Expr.Name x p ∈ ts ∧ (env.kindOf x == some .local) = false) ∨ vs.all (foldedForSure 8) = true) : swappedStores [.Tuple ts kt pt] (.Tuple vs kv pv) env = pure none := by
  rw [sw_gen bk st hl hl2]
  rcases h with ⟨x, p, hx, hk⟩ | h
  · have q := fm_lt (f := fun
      | .Name id pos => if env.kindOf id == some .local && pos.line == (ts.head?.map (·.pos.line)).getD 0 then some id else none
      | _ => none) hx (by simp only [hk, Bool.false_and, Bool.false_eq_true, if_false])
    have q : (swN env ts).length < ts.length := q
    rw [if_pos]
    simp only [Bool.or_eq_true, bne_iff_ne, ne_eq]
    left; omega
  · split
    · rfl
    · first | rfl | rw [if_pos h]
theorem sw_some {env : PySem.Env} {ts vs : List PySem.Expr} {ns : List Str} {pt pv : Pos} {kt kv} (bk : env.blockKind = .function) (st : ∀ e ∈ vs, noStar e = true) (hl : ts.length = 2 ∨ ts.length = 3) (hl2 : vs.length = ts.length)
    (h : swN env ts = ns) (h2 : ns.length = ts.length) (h3 : ns.eraseDups.length = ns.length) (q1 : vs.all (foldedForSure 8) = false) (q2 : vs.all (constantsAlone 8) = false) : swappedStores [.Tuple ts kt pt] (.Tuple vs kv pv) env = pure (some ns) := by
  rw [sw_gen bk st hl hl2, h, h2, h3, h2]
  rw [if_neg (by simp), if_neg (by rw [q1]; decide), if_neg (by rw [q2]; decide)]
theorem st_par {is : List Nat} {es : Es} {st : Stmt} (hX : StCx Γ c cf ar k N sc E0 X) (h : chkS Γ N sc (.par is es) st = true) : PS X st (tX c E0 fr Ge He (exec Γ cf fr W (.par is es))) := by
  unfold chkS at h
  split at h <;> first | (cases h; done) | skip
  all_goals first | (rename_i hq _ ; cases hq; done) | (rename_i hq; cases hq; done) | skip
  rename_i is' es' ts kt pt vs kv pv sp heq
  cases heq
  (simp only [Bool.and_eq_true] at h)
  obtain ⟨⟨⟨⟨⟨h1, h2⟩, h3⟩, h4⟩, h5⟩, h6⟩ := h
  have hn := of_decide_eq_true h4
  have nd : X.N.Nodup := by rw [hX.hN]; exact hX.nd
  refine ps_ex fun ρ => ?_
  have pa := pa_evp (ρ := ρ) hX.toCxOk h2
  have st := chks_star_ h2
  have bk := block_of hX
  have mono : ∀ {G H : Hp} {R R' : List V → Hp → Prop} {r : Out (List Slot)}, (∀ vs H1, R vs H1 → R' vs H1) → PostG c E0 (RP c.toCf) G H r R → PostG c E0 (RP c.toCf) G H r R' := fun {G H R R' r} hr w => by
    cases r with
    | no => exact w
    | er _ _ _ => exact w
    | ok _ _ => exact fun G' H' v n s t rr => hr _ _ (w G' H' v n s t rr)
  -- by way of a tuple
  have plain : swappedStores [.Tuple ts kt pt] (.Tuple vs kv pv) X.env = pure none → PS X (.Assign [.Tuple ts kt pt] (.Tuple vs kv pv) sp) (tS c E0 fr Ge He ρ (exec Γ cf fr W (.par is es) ρ)) := fun hs => by
    obtain ⟨q1, q2, q3⟩ := pgs_names hX h1
    refine ps_imp (ps_asg (pe_tup pa) (pg_tup hX.calm q1 q2 q3) rfl hs rfl) fun D σ H q => ?_
    have w := par_wp hn q
    obtain ⟨G, ds, e, w⟩ := w
    refine ⟨G, ds, e, ?_⟩
    have hlen : is.length < 20 := of_decide_eq_true h5
    refine mono (fun vs H1 w => ?_) w
    obtain ⟨w1, w2, w3⟩ := w
    refine ⟨by rw [w1, sizeLine_eq]; omega, fun p hp => ⟨p, vs, rfl, SqT.of upd_same, w1, gNs_wp w1 (w3 p _ hp)⟩⟩
  rw [Bool.or_eq_true] at h6
  rcases h6 with h6 | h6
  · -- stored from the right
    unfold swB at h6
    split at h6
    · rename_i x px y py a b
      simp only [Bool.and_eq_true, Bool.not_eq_true'] at h6
      obtain ⟨⟨⟨⟨⟨k1, k2⟩, k3⟩, k4⟩, k5⟩, k6⟩ := h6
      have l1 := only_of hX.toCxOk k1
      have l2 := only_of hX.toCxOk k2
      cases is with
      | nil => simp [parNames] at h1
      | cons i is =>
        cases is with
        | nil => simp [parNames] at h1
        | cons j is =>
          cases is with
          | cons _ _ => simp [parNames] at h1
          | nil =>
            simp only [parNames, Bool.and_eq_true] at h1
            obtain ⟨⟨m1, _⟩, ⟨m2, _⟩, _⟩ := h1
            have ij : i ≠ j := by simpa using hn
            have kx : X.env.kindOf x = some .local := l1
            have ky : X.env.kindOf y = some .local := l2
            have k3 : py.line = px.line := by simpa using k3
            have k4 : x ≠ y := by simpa using k4
            have hw : swappedStores [.Tuple [.Name x px, .Name y py] kt pt] (.Tuple [a, b] kv pv) X.env = pure (some [x, y]) := by
              refine sw_some bk st (.inl rfl) rfl ?_ rfl ?_ (by simpa using k5) (by simpa using k6)
              · simp [swN, kx, ky, k3, Expr.pos]
              · simp [List.eraseDups_cons, k4, Ne.symm k4]
            refine ps_imp (ps_par hX.calm nd (by rw [hX.hN]; exact of_decide_eq_true m1) (by rw [hX.hN]; exact of_decide_eq_true m2) ij l1 l2 pa hw) fun D σ H q => ?_
            obtain ⟨G, ds, e, w⟩ := par_wp hn q
            refine ⟨G, ds, e, mono (fun vs H1 w => ?_) w⟩
            obtain ⟨w1, w2, w3⟩ := w
            match vs, w1 with
            | [v, u], _ => exact ⟨v, u, rfl, w2⟩
    · rename_i x px y py z pz a b d
      simp only [Bool.and_eq_true, Bool.not_eq_true'] at h6
      obtain ⟨⟨⟨⟨⟨⟨⟨⟨⟨k1, k2⟩, k3⟩, k4⟩, k5⟩, k6⟩, k7⟩, k8⟩, k9⟩, k10⟩ := h6
      have l1 := only_of hX.toCxOk k1
      have l2 := only_of hX.toCxOk k2
      have l3 := only_of hX.toCxOk k3
      obtain ⟨i, j, l, rfl⟩ : ∃ i j l, is = [i, j, l] := by
        cases is with
        | nil => simp [parNames] at h1
        | cons i is =>
          cases is with
          | nil => simp [parNames] at h1
          | cons j is =>
            cases is with
            | nil => simp [parNames] at h1
            | cons l is =>
              cases is with
              | nil => exact ⟨i, j, l, rfl⟩
              | cons _ _ => simp [parNames] at h1
      · skip
        simp only [parNames, Bool.and_eq_true] at h1
        obtain ⟨⟨m1, _⟩, ⟨m2, _⟩, ⟨m3, _⟩, _⟩ := h1
        simp only [List.nodup_cons, List.mem_cons, List.mem_nil_iff, or_false, not_or] at hn
        have kx : X.env.kindOf x = some .local := l1
        have ky : X.env.kindOf y = some .local := l2
        have kz : X.env.kindOf z = some .local := l3
        have k4 : py.line = px.line := by simpa using k4
        have k5 : pz.line = px.line := by simpa using k5
        have k6 : x ≠ y := by simpa using k6
        have k7 : x ≠ z := by simpa using k7
        have k8 : y ≠ z := by simpa using k8
        have hw : swappedStores [.Tuple [.Name x px, .Name y py, .Name z pz] kt pt] (.Tuple [a, b, d] kv pv) X.env = pure (some [x, y, z]) := by
          refine sw_some bk st (.inr rfl) rfl ?_ rfl ?_ (by simpa using k9) (by simpa using k10)
          · simp [swN, kx, ky, kz, k4, k5, Expr.pos]
          · simp [List.eraseDups_cons, k6, Ne.symm k6, k7, Ne.symm k7, k8, Ne.symm k8]
        refine ps_imp (ps_par3 hX.calm nd (by rw [hX.hN]; exact of_decide_eq_true m1) (by rw [hX.hN]; exact of_decide_eq_true m2) (by rw [hX.hN]; exact of_decide_eq_true m3) hn.1.1 hn.1.2 hn.2.1 l1 l2 l3 pa hw) fun D σ H q => ?_
        obtain ⟨G, ds, e, w⟩ := par_wp (by simp [hn]) q
        refine ⟨G, ds, e, mono (fun vs H1 w => ?_) w⟩
        obtain ⟨w1, w2, w3⟩ := w
        match vs, w1 with
        | [v, u, t], _ => exact ⟨v, u, t, rfl, w2⟩
    · cases h6
  · unfold noSwB at h6
    split at h6
    · rename_i x px y py a b
      refine plain (sw_none bk st (.inl rfl) rfl ?_)
      simp only [Bool.or_eq_true, Bool.not_eq_true'] at h6
      rcases h6 with (h6 | h6) | h6
      · exact .inl ⟨x, px, by simp, kind_not hX.toCxOk h6⟩
      · exact .inl ⟨y, py, by simp, kind_not hX.toCxOk h6⟩
      · exact .inr (by simpa using h6)
    · rename_i x px y py z pz a b d
      refine plain (sw_none bk st (.inr rfl) rfl ?_)
      simp only [Bool.or_eq_true, Bool.not_eq_true'] at h6
      rcases h6 with ((h6 | h6) | h6) | h6
      · exact .inl ⟨x, px, by simp, kind_not hX.toCxOk h6⟩
      · exact .inl ⟨y, py, by simp, kind_not hX.toCxOk h6⟩
      · exact .inl ⟨z, pz, by simp, kind_not hX.toCxOk h6⟩
      · exact .inr (by simpa [Bool.and_assoc] using h6)
    · cases h6
end
end IR
end
section
set_option Elab.async false
set_option linter.all false
set_option maxRecDepth 100000
set_option maxHeartbeats 4100000
namespace IR
open L2 PySem PySem.Spec PyProof.Rows
section
variable {Γ : Gm} {c : Cg} {cf : Nat → List D → DS → Out D} {ar : Nat → Nat} {k : Nat} {N : List Str} {sc : Scope} {E0 : XK} {X : Cx} {ρ : Env} {fr : Bool} {Ge He : Hp} {W : Nat} {x y z : PySem.Expr}
theorem name_of {i : Nat} (hX : CxOk Γ c cf ar k N sc E0 X) (h : nameAt N sc i x = true) : ∃ n p, x = .Name n p ∧ PE X x (tVar i) := by
  cases x <;> first | (simp [nameAt] at h; done) | skip
  simp only [nameAt] at h
  exact ⟨_, _, rfl, var_of hX h⟩
theorem few1 {cp : Pos} {env : PySem.Env} (hs : noStar y = true) : ((backTo cp (starEach [y] env)).all (fun x => !x.1) && (backToKw cp (keywordEach [] env)).all (fun x => x.1.isSome) && decide (([y] : List PySem.Expr).length + ([] : List Keyword).length + (if ([] : List Keyword).isEmpty then 0 else 1) < 30)) = true := by rw [star_cons hs]; rfl
theorem pe_app {te to : TE} {ap cp : Pos} (hb : notCall0 x = true) (hs : noStar y = true) (hl : (ap.endLine == cp.line) = true) (ho : PE X x to) (he : PE X y te) : PE X (.Call (.Attribute x "append" ap) [y] [] cp) (tBM X.K "list" rAppend to fun σ H Q => te σ H fun v H' => Q [v] H') :=
  pe_bm PySem.F.plainAttrs_list PySem.F.slot_list_append PySem.F.type_list_append mt_append ho (pa_one he hs) (base_of hb) (few1 hs) hl (star_cons hs) rfl
theorem pe_extd {te to : TE} {ap cp : Pos} (hb : notCall0 x = true) (hs : noStar y = true) (hl : (ap.endLine == cp.line) = true) (ho : PE X x to) (he : PE X y te) : PE X (.Call (.Attribute x "extend" ap) [y] [] cp) (tBM X.K "list" rExtend to fun σ H Q => te σ H fun v H' => Q [v] H') :=
  pe_bm PySem.F.plainAttrs_list PySem.F.slot_list_extend PySem.F.type_list_extend mt_extend ho (pa_one he hs) (base_of hb) (few1 hs) hl (star_cons hs) rfl
theorem pe_popAt {te to : TE} {ap cp : Pos} (hb : notCall0 x = true) (hs : noStar y = true) (hl : (ap.endLine == cp.line) = true) (ho : PE X x to) (he : PE X y te) : PE X (.Call (.Attribute x "pop" ap) [y] [] cp) (tBM X.K "list" rPopAt to fun σ H Q => te σ H fun v H' => Q [v] H') :=
  pe_bm PySem.F.plainAttrs_list PySem.F.slot_list_pop PySem.F.type_list_pop mt_popAt ho (pa_one he hs) (base_of hb) (few1 hs) hl (star_cons hs) rfl
theorem top_lst {c : Cf} {G H : Hp} {p : Addr} {ds : List D} (t : Top c G H p (.lst ds)) : ∃ xs, H p = some (.lst xs) ∧ Reps c G xs ds := by
  cases t with
  | lst h r => exact ⟨_, h, r⟩
theorem upd_lst {c : Cf} {G H : Hp} {p : Addr} {xs : List V} {ds : List D} (r : Reps c G xs ds) : Top c G (upd H p (.lst xs)) p (.lst ds) := .lst upd_same r
/-! ### append, extend -/
theorem st_app {i : Nat} {e : E} {st : Stmt} (hX : StCx Γ c cf ar k N sc E0 X) (h : chkS Γ N sc (.app i e) st = true) : PS X st (tX c E0 fr Ge He (exec Γ cf fr W (.app i e))) := by
  unfold chkS at h
  split at h <;> first | (cases h; done) | skip
  all_goals first | (rename_i hq _ ; cases hq; done) | (rename_i hq; cases hq; done) | skip
  rename_i i' e' x m ap y cp sp heq
  cases heq
  (simp only [Bool.and_eq_true] at h)
  obtain ⟨⟨⟨⟨⟨h1, h2⟩, h3⟩, h4⟩, h5⟩, h6⟩ := h
  have em := of_decide_eq_true h1
  subst em
  obtain ⟨n, p, rfl, hv⟩ := name_of hX.toCxOk h2
  refine ps_ex fun ρ => ps_imp (ps_expr (pe_app rfl h5 h6 hv ((s_E (ρ := ρ) e hX.toCxOk h3).rep (of_decide_eq_true h4)))) fun D σ H q => ?_
  obtain ⟨G, ds, g, q⟩ := q
  simp only [exec] at q
  cases hs : ρ[i]? with
  | none => rw [hs] at q; exact q.elim
  | some s =>
    rw [hs] at q
    cases s with
    | no => exact q.elim
    | sh _ => exact q.elim
    | own d0 =>
      cases d0 <;> first | (exact q.elim; done) | skip
      rename_i zs
      obtain ⟨p, k1, k2, k3, k4, k5⟩ := g.ownAt hs
      obtain ⟨xs, t1, t2⟩ := top_lst k4
      refine ⟨.ref p, k1, .inl ⟨rfl, xs, SqL.of t1⟩, G, ds, g.ei, tS_seq (f := fun d s => if zs.length < lim then .ok (.nx (ρ.set i (.own (.lst (zs ++ [d]))))) s else .no) g q fun G1 H1 v d ds1 n s t g1 r q1 => ?_⟩
      have r : Rep c.toCf G1 v d := r
      obtain ⟨p', j1, j2, j3, j4, j5⟩ := g1.ownAt hs
      rw [k1] at j1
      cases j1
      obtain ⟨xs', t1', t2'⟩ := top_lst j4
      by_cases hl : zs.length < lim
      · rw [if_pos hl] at q1
        have q1 : PostS c E0 fr Ge He G1 D (.ok (.nx (ρ.set i (.own (.lst (zs ++ [d]))))) ds1) := q1
        exact ⟨p, xs', v, rfl, rfl, t1', by rw [t2'.len, ← lim_eq]; exact hl, q1 G1 _ σ (g1.mut hs k1 (upd_lst (t2'.append (.cons r .nil)))) (Sub.refl _)⟩
      · rw [if_neg hl] at q1; exact q1.elim
theorem st_ext {i : Nat} {e : E} {st : Stmt} (hX : StCx Γ c cf ar k N sc E0 X) (h : chkS Γ N sc (.ext i e) st = true) : PS X st (tX c E0 fr Ge He (exec Γ cf fr W (.ext i e))) := by
  unfold chkS at h
  split at h <;> first | (cases h; done) | skip
  all_goals first | (rename_i hq _ ; cases hq; done) | (rename_i hq; cases hq; done) | skip
  rename_i i' e' x m ap y cp sp heq
  cases heq
  (simp only [Bool.and_eq_true] at h)
  obtain ⟨⟨⟨⟨⟨h1, h2⟩, h3⟩, h4⟩, h5⟩, h6⟩ := h
  have em := of_decide_eq_true h1
  subst em
  obtain ⟨n, p, rfl, hv⟩ := name_of hX.toCxOk h2
  refine ps_ex fun ρ => ps_imp (ps_expr (pe_extd rfl h5 h6 hv ((s_E (ρ := ρ) e hX.toCxOk h3).rep (of_decide_eq_true h4)))) fun D σ H q => ?_
  obtain ⟨G, ds, g, q⟩ := q
  simp only [exec] at q
  cases hs : ρ[i]? with
  | none => rw [hs] at q; exact q.elim
  | some s =>
    rw [hs] at q
    cases s with
    | no => exact q.elim
    | sh _ => exact q.elim
    | own d0 =>
      cases d0 <;> first | (exact q.elim; done) | skip
      rename_i zs
      obtain ⟨p, k1, k2, k3, k4, k5⟩ := g.ownAt hs
      obtain ⟨xs, t1, t2⟩ := top_lst k4
      refine ⟨.ref p, k1, .inl ⟨rfl, xs, SqL.of t1⟩, G, ds, g.ei, tS_seq (f := fun d s => (match d with
        | .lst es => if zs.length + es.length ≤ lim then .ok (.nx (ρ.set i (.own (.lst (zs ++ es))))) s else .no
        | _ => .no)) g q fun G1 H1 v d ds1 n s t g1 r q1 => ?_⟩
      have r : Rep c.toCf G1 v d := r
      obtain ⟨p', j1, j2, j3, j4, j5⟩ := g1.ownAt hs
      rw [k1] at j1
      cases j1
      obtain ⟨xs', t1', t2'⟩ := top_lst j4
      obtain ⟨es, rfl⟩ : ∃ es, d = .lst es := by
        cases d <;> first | exact ⟨_, rfl⟩ | exact q1.elim
      have q1 : PostS c E0 fr Ge He G1 D (if zs.length + es.length ≤ lim then .ok (.nx (ρ.set i (.own (.lst (zs ++ es))))) ds1 else .no) := q1
      by_cases hl : zs.length + es.length ≤ lim
      · rw [if_pos hl] at q1
        obtain ⟨b, ys, rfl, u1, u2⟩ := ro_lst (H0 := H1) n (.inl r)
        exact ⟨p, b, xs', ys, rfl, rfl, t1', u1, by rw [t2'.len, u2.len, ← lim_eq]; exact hl, q1 G1 _ σ (g1.mut hs k1 (upd_lst (t2'.append u2))) (Sub.refl _)⟩
      · rw [if_neg hl] at q1; exact q1.elim
/-! ### one thing taken apart, a thing for itself -/
theorem st_unp {p : Pt} {e : E} {st : Stmt} (hX : StCx Γ c cf ar k N sc E0 X) (h : chkS Γ N sc (.unp p e) st = true) : PS X st (tX c E0 fr Ge He (exec Γ cf fr W (.unp p e))) := by
  unfold chkS at h
  split at h <;> first | (cases h; done) | skip
  all_goals first | (rename_i hq _ ; cases hq; done) | (rename_i hq; cases hq; done) | skip
  rename_i p' e' ts kt tp y sp heq
  cases heq
  (simp only [Bool.and_eq_true] at h)
  obtain ⟨⟨⟨⟨h1, h2⟩, h3⟩, h4⟩, h5⟩ := h
  have hw : swappedStores [.Tuple ts kt tp] y X.env = pure none := by
    cases y <;> first | rfl | (simp at h5)
  have hs : swapsWithSole [.Tuple ts kt tp] y sp.line X.env = pure false := (show swapsWith y (some (.Tuple ts kt tp)) sp.line X.env = pure false from sw_not h4)
  have lo : LocOk sc X := fun x hx => ⟨loc_of hX.toCxOk hx, .inl (hX.fs x)⟩
  refine ps_ex fun ρ => ps_imp (ps_asg ((s_E (ρ := ρ) e hX.toCxOk h2).rep (of_decide_eq_true h3)) (pg_pt hX.hN hX.nd hX.calm lo p h1) hs hw rfl) fun D σ H q => ?_
  have q : tS c E0 fr Ge He ρ (fun ds => (ev Γ cf e ρ ds).bind fun d s => (match asgP p d ρ with
    | some ρ1 => .ok (.nx ρ1) s
    | none => .no)) D σ H := by
    obtain ⟨G, ds, g, q⟩ := q
    simp only [exec] at q
    exact ⟨G, ds, g, q⟩
  refine tS_E (m := .rep) q fun G H1 G1 v d ds ds1 g n s t g1 r q1 => ?_
  cases ha : asgP p d ρ with
  | none => rw [ha] at q1; exact q1.elim
  | some ρ1 =>
    rw [ha] at q1
    have q1 : PostS c E0 fr Ge He G1 D (.ok (.nx ρ1) ds1) := q1
    exact g1.tg r ha fun σ2 _ g2 => q1 G1 H1 σ2 g2 (Sub.refl _)
theorem st_ex {e : E} {st : Stmt} (hX : StCx Γ c cf ar k N sc E0 X) (h : chkS Γ N sc (.ex e) st = true) : PS X st (tX c E0 fr Ge He (exec Γ cf fr W (.ex e))) := by
  unfold chkS at h
  split at h <;> first | (cases h; done) | skip
  all_goals first | (rename_i hq _ ; cases hq; done) | (rename_i hq; cases hq; done) | skip
  rename_i e' y sp heq
  cases heq
  (simp only [Bool.and_eq_true] at h)
  refine ps_ex fun ρ => ps_imp (ps_expr (s_E (ρ := ρ) e hX.toCxOk h.1).pe (sw_not h.2)) fun D σ H q => ?_
  have q : tS c E0 fr Ge He ρ (fun ds => (ev Γ cf e ρ ds).bind fun _ s => .ok (.nx ρ) s) D σ H := by
    obtain ⟨G, ds, g, q⟩ := q
    simp only [exec] at q
    exact ⟨G, ds, g, q⟩
  exact tS_E (m := mdOf Γ e) q fun G H1 G1 v d ds ds1 g n s t g1 r q1 => q1 G1 H1 σ g1 (Sub.refl _)
/-! ### x[k] = e -/
theorem sub_ha {env : PySem.Env} {o i : PySem.Expr} {pos : Pos} (hs : notSl i = true) : ∀ v, assign (.Subscript o i pos) env v = (do
      let a0 ← holding [v] (eval o env)
      let b0 ← holding [v, a0] (eval i env)
      standAt pos
      holding [v, a0, b0] (setItem a0 b0 v)
      release [v, a0, b0] []) := by
  intro v
  cases i <;> first | rfl | (simp [notSl] at hs)
theorem st_seti {i : Nat} {kk e : E} {st : Stmt} (hX : StCx Γ c cf ar k N sc E0 X) (h : chkS Γ N sc (.seti i kk e) st = true) : PS X st (tX c E0 fr Ge He (exec Γ cf fr W (.seti i kk e))) := by
  unfold chkS at h
  split at h <;> first | (cases h; done) | skip
  all_goals first | (rename_i hq _ ; cases hq; done) | (rename_i hq; cases hq; done) | skip
  rename_i i' k' e' x y pp z sp heq
  cases heq
  (simp only [Bool.and_eq_true] at h)
  obtain ⟨⟨⟨⟨h1, h2⟩, h3⟩, h4⟩, h5⟩ := h
  obtain ⟨n, p, rfl, hv⟩ := name_of hX.toCxOk h1
  have hu : X.A.units + 1 < cLine := by have := hX.room.un; omega
  refine ps_ex fun ρ => ps_imp (ps_asg ((s_E (ρ := ρ) e hX.toCxOk h3).rep (of_decide_eq_true h4)) (pg_sub hv (s_E (ρ := ρ) kk hX.toCxOk h2).rd (pset_or set_list (set_dict hu)) (sub_ha h5)) (show swapsWith z (some (.Subscript (.Name n p) y pp)) sp.line X.env = pure false from (by cases z <;> rfl)) rfl rfl) fun D σ H q => ?_
  have q : tS c E0 fr Ge He ρ (fun ds => (ev Γ cf e ρ ds).bind fun d s => (match ρ[i]? with
    | some (.own (.lst ds)) => (ev Γ cf kk ρ s).bind fun x s => (match x with
      | .int j => (match ixN ds.length j with
        | some j => .ok (.nx (ρ.set i (.own (.lst (ds.set j d))))) s
        | none => .no)
      | _ => .no)
    | some (.own (.dct t kvs)) => (ev Γ cf kk ρ s).bind fun x s => (match keyOf x with
      | some y => if kyKind y = t ∧ kvs.length < lim then .ok (.nx (ρ.set i (.own (.dct t (dput kvs y d))))) s else .no
      | none => .no)
    | _ => .no)) D σ H := by
    obtain ⟨G, ds, g, q⟩ := q
    simp only [exec] at q
    exact ⟨G, ds, g, q⟩
  refine tS_E (m := .rep) q fun G H1 G1 v d ds ds1 g n s t g1 r q1 => ?_
  have r : Rep c.toCf G1 v d := r
  cases hs : ρ[i]? with
  | none => rw [hs] at q1; exact q1.elim
  | some sl =>
    rw [hs] at q1
    cases sl with
    | no => exact q1.elim
    | sh _ => exact q1.elim
    | own d0 =>
      obtain ⟨p, k1, k2, k3, k4, k5⟩ := g1.ownAt hs
      cases d0 <;> first | (exact q1.elim; done) | skip
      · rename_i zs
        refine ⟨.ref p, k1, G1, ds1, g1.ei, tS_seq (f := fun x s => (match x with
          | .int j => (match ixN zs.length j with
            | some j => .ok (.nx (ρ.set i (.own (.lst (zs.set j d))))) s
            | none => .no)
          | _ => .no)) g1 q1 fun G2 H2 w dw ds2 n2 s2 t2 g2 r2 q2 => ?_⟩
        cases dw <;> first | (exact q2.elim; done) | skip
        rename_i j
        have q2 : PostS c E0 fr Ge He G2 D (match ixN zs.length j with
            | some j => .ok (.nx (ρ.set i (.own (.lst (zs.set j d))))) ds2
            | none => .no) := q2
        cases hj : ixN zs.length j with
        | none => rw [hj] at q2; exact q2.elim
        | some j' =>
          rw [hj] at q2
          have q2 : PostS c E0 fr Ge He G2 D (.ok (.nx (ρ.set i (.own (.lst (zs.set j' d))))) ds2) := q2
          obtain ⟨p', u1, u2, u3, u4, u5⟩ := g2.ownAt hs
          rw [k1] at u1
          cases u1
          obtain ⟨xs', t1', t2'⟩ := top_lst u4
          have rr : Rep c.toCf G2 v d := r.mono s2.ex
          exact .inl ⟨p, xs', j, j', rfl, ro_int r2, t1', by rw [t2'.len]; exact hj, q2 G2 _ σ (g2.mut hs k1 (upd_lst (t2'.set j' rr))) (Sub.refl _)⟩
      · rename_i tt kvs
        refine ⟨.ref p, k1, G1, ds1, g1.ei, tS_seq (f := fun x s => (match keyOf x with
          | some y => if kyKind y = tt ∧ kvs.length < lim then .ok (.nx (ρ.set i (.own (.dct tt (dput kvs y d))))) s else .no
          | none => .no)) g1 q1 fun G2 H2 w dw ds2 n2 s2 t2 g2 r2 q2 => ?_⟩
        cases hk : keyOf dw with
        | none => rw [hk] at q2; exact q2.elim
        | some ky =>
          rw [hk] at q2
          have q2 : PostS c E0 fr Ge He G2 D (if kyKind ky = tt ∧ kvs.length < lim then .ok (.nx (ρ.set i (.own (.dct tt (dput kvs ky d))))) ds2 else .no) := q2
          by_cases hc : kyKind ky = tt ∧ kvs.length < lim
          · rw [if_pos hc] at q2
            obtain ⟨p', u1, u2, u3, u4, u5⟩ := g2.ownAt hs
            rw [k1] at u1
            cases u1
            have rr : Rep c.toCf G2 v d := r.mono s2.ex
            obtain ⟨o, w1, w2⟩ := top_dput u4 (keyAt g2.ei.on r2 hk) hc.1 hc.2 rr
            exact .inr ⟨p, _, rfl, w1, q2 G2 _ σ (g2.mut hs k1 w2) (Sub.refl _)⟩
          · rw [if_neg hc] at q2; exact q2.elim
end
end IR
end
section
set_option Elab.async false
set_option linter.all false
set_option maxRecDepth 100000
set_option maxHeartbeats 4100000
namespace IR
open L2 PySem PySem.Spec PyProof.Rows
section
variable {Γ : Gm} {c : Cg} {cf : Nat → List D → DS → Out D} {ar : Nat → Nat} {k : Nat} {N : List Str} {sc : Scope} {E0 : XK} {X : Cx} {ρ : Env} {fr : Bool} {Ge He : Hp} {W : Nat} {x y z : PySem.Expr}
/-! ### pop -/
theorem pop_at {c : Cf} {G H : Hp} {p : Addr} {ds : List D} {j : Int} {d : D} (t : Top c G H p (.lst ds)) (hj : 0 ≤ j) (hd : ds[j.toNat]? = some d) (hl : j ≤ lim) : ∃ xs v, H p = some (.lst xs) ∧ -(2 ^ 63) ≤ j ∧ j < 2 ^ 63 ∧ seqIndex? j xs.length = some j.toNat ∧ xs[j.toNat]? = some v ∧ Rep c G v d ∧
    Top c G (upd H p (.lst (xs.eraseIdx j.toNat))) p (.lst (ds.eraseIdx j.toNat)) := by
  obtain ⟨xs, t1, t2⟩ := top_lst t
  obtain ⟨v, h1, h2⟩ := t2.get hd
  have lt : j.toNat < ds.length := by
    rw [List.getElem?_eq_some_iff] at hd
    exact hd.1
  have hl : j ≤ 16777216 := hl
  refine ⟨xs, v, t1, by omega, by omega, ?_, h1, h2, upd_lst (t2.erase _)⟩
  unfold seqIndex?
  rw [t2.len]
  have e : (if j < 0 then j + (ds.length : Int) else j) = j := if_neg (by omega)
  have e2 : (decide (0 ≤ j) && decide (j < (ds.length : Int))) = true := by simp; omega
  simp only [e, e2, if_true]
theorem popB_of {i : Nat} {kk : E} (hX : CxOk Γ c cf ar k N sc E0 X) (h : popB Γ N sc i kk y = true) : ∃ x ap z cp, y = .Call (.Attribute x "pop" ap) [z] [] cp ∧ (∀ {ρ : Env}, PE X y (tBM X.K "list" rPopAt (tVar i) fun σ H Q => tE c E0 .rd ρ (ev Γ cf kk ρ) σ H fun v H' => Q [v] H')) ∧ notComp y = true := by
  unfold popB at h
  split at h
  · rename_i x m ap z cp
    (simp only [Bool.and_eq_true] at h)
    obtain ⟨⟨⟨⟨h1, h2⟩, h3⟩, h4⟩, h5⟩ := h
    have em := of_decide_eq_true h1
    subst em
    obtain ⟨n, p, rfl, hv⟩ := name_of hX h2
    exact ⟨_, _, _, _, rfl, fun {ρ} => pe_popAt rfl h4 h5 hv (s_E (ρ := ρ) kk hX h3).rd, rfl⟩
  · cases h
theorem st_pop {p : Pt} {i : Nat} {kk : E} {st : Stmt} (hX : StCx Γ c cf ar k N sc E0 X) (h : chkS Γ N sc (.pop p i kk) st = true) : PS X st (tX c E0 fr Ge He (exec Γ cf fr W (.pop p i kk))) := by
  unfold chkS at h
  split at h <;> first | (cases h; done) | skip
  all_goals first | (rename_i hq _ ; cases hq; done) | (rename_i hq; cases hq; done) | skip
  rename_i p' i' k' tg y sp heq
  cases heq
  (simp only [Bool.and_eq_true] at h)
  obtain ⟨⟨h1, h2⟩, h3⟩ := h
  have h3 : i ∉ p.slots := by simpa using h3
  obtain ⟨x0, ap, z, cp, rfl, hp, hc⟩ := popB_of hX.toCxOk h2
  have lo : LocOk sc X := fun x hx => ⟨loc_of hX.toCxOk hx, .inl (hX.fs x)⟩
  have hs : swapsWithSole [tg] (.Call (.Attribute x0 "pop" ap) [z] [] cp) sp.line X.env = pure false := (show swapsWith (.Call (.Attribute x0 "pop" ap) [z] [] cp) (some tg) sp.line X.env = pure false from sw_not hc)
  have hw : swappedStores [tg] (.Call (.Attribute x0 "pop" ap) [z] [] cp) X.env = pure none := by
    cases tg <;> rfl
  have h1' : (assignEach [tg] X.env).map (·.2) = [assign tg X.env] := by
    cases tg <;> first | rfl | (cases p <;> simp [ptB] at h1)
  refine ps_ex fun ρ => ps_imp (ps_asg (hp (ρ := ρ)) (pg_pt hX.hN hX.nd hX.calm lo p h1) hs hw h1') fun D σ H q => ?_
  obtain ⟨G, ds, g, q⟩ := q
  simp only [exec] at q
  cases hs : ρ[i]? with
  | none => rw [hs] at q; exact q.elim
  | some s =>
    rw [hs] at q
    cases s with
    | no => exact q.elim
    | sh _ => exact q.elim
    | own d0 =>
      cases d0 <;> first | (exact q.elim; done) | skip
      rename_i zs
      obtain ⟨a, k1, k2, k3, k4, k5⟩ := g.ownAt hs
      obtain ⟨xs, t1, t2⟩ := top_lst k4
      refine ⟨.ref a, k1, .inl ⟨rfl, xs, SqL.of t1⟩, G, ds, g.ei, tS_seq (f := fun x s => (match x with
        | .int j => if 0 ≤ j ∧ j ≤ lim then (match zs[j.toNat]? with
          | some d => (match asgP p d (ρ.set i (.own (.lst (zs.eraseIdx j.toNat)))) with
            | some ρ1 => .ok (.nx ρ1) s
            | none => .no)
          | none => .no) else .no
        | _ => .no)) g q fun G1 H1 v d ds1 n s t g1 r q1 => ?_⟩
      obtain ⟨j, rfl⟩ : ∃ j, d = .int j := by
        cases d <;> first | exact ⟨_, rfl⟩ | exact q1.elim
      have q1 : PostS c E0 fr Ge He G1 D (if 0 ≤ j ∧ j ≤ lim then (match zs[j.toNat]? with
          | some d => (match asgP p d (ρ.set i (.own (.lst (zs.eraseIdx j.toNat)))) with
            | some ρ1 => .ok (.nx ρ1) ds1
            | none => .no)
          | none => .no) else .no) := q1
      by_cases hj : 0 ≤ j ∧ j ≤ lim
      · rw [if_pos hj] at q1
        cases hd : zs[j.toNat]? with
        | none => rw [hd] at q1; exact q1.elim
        | some d =>
          rw [hd] at q1
          have q1 : PostS c E0 fr Ge He G1 D (match asgP p d (ρ.set i (.own (.lst (zs.eraseIdx j.toNat)))) with
            | some ρ1 => .ok (.nx ρ1) ds1
            | none => .no) := q1
          obtain ⟨a', j1, j2, j3, j4, j5⟩ := g1.ownAt hs
          rw [k1] at j1
          cases j1
          obtain ⟨ys, v, u1, u2, u3, u4, u5, u6, u7⟩ := pop_at j4 hj.1 hd hj.2
          have g2 := g1.mut hs k1 u7
          cases ha : asgP p d (ρ.set i (.own (.lst (zs.eraseIdx j.toNat)))) with
          | none => rw [ha] at q1; exact q1.elim
          | some ρ1 =>
            rw [ha] at q1
            have q1 : PostS c E0 fr Ge He G1 D (.ok (.nx ρ1) ds1) := q1
            exact ⟨a, ys, j, j.toNat, v, rfl, by rw [ro_int r], u1, u2, u3, u4, u5, g2.tg u6 ha fun σ2 _ g3 => q1 G1 _ σ2 g3 (Sub.refl _)⟩
      · rw [if_neg hj] at q1; exact q1.elim
theorem st_apop {h0 i : Nat} {kk : E} {st : Stmt} (hX : StCx Γ c cf ar k N sc E0 X) (h : chkS Γ N sc (.apop h0 i kk) st = true) : PS X st (tX c E0 fr Ge He (exec Γ cf fr W (.apop h0 i kk))) := by
  unfold chkS at h
  split at h <;> first | (cases h; done) | skip
  all_goals first | (rename_i hq _ ; cases hq; done) | (rename_i hq; cases hq; done) | skip
  rename_i h1 i' k' x m ap y cp sp heq
  cases heq
  (simp only [Bool.and_eq_true] at h)
  (obtain ⟨⟨⟨h1, h2⟩, h3⟩, h4⟩ := h)
  have em := of_decide_eq_true h1
  subst em
  obtain ⟨n, p, rfl, hv⟩ := name_of hX.toCxOk h2
  obtain ⟨x0, ap', z, cp', rfl, hp, hc⟩ := popB_of hX.toCxOk h3
  refine ps_ex fun ρ => ps_imp (ps_expr (pe_app rfl rfl h4 hv (hp (ρ := ρ)))) fun D σ H q => ?_
  obtain ⟨G, ds, g, q⟩ := q
  simp only [exec] at q
  cases hs0 : ρ[h0]? with
  | none => rw [hs0] at q; exact q.elim
  | some s0 =>
  rw [hs0] at q
  cases s0 with
  | no => exact q.elim
  | sh _ => exact q.elim
  | own d00 =>
  cases d00 <;> first | (exact q.elim; done) | skip
  rename_i es
  cases hs : ρ[i]? with
  | none => rw [hs] at q; exact q.elim
  | some s =>
  rw [hs] at q
  cases s with
  | no => exact q.elim
  | sh _ => exact q.elim
  | own d0 =>
  cases d0 <;> first | (exact q.elim; done) | skip
  rename_i zs
  have q : PostS c E0 fr Ge He G D (if h0 = i then .no else (ev Γ cf kk ρ ds).bind fun x s => (match x with
      | .int j => if 0 ≤ j ∧ j ≤ lim ∧ es.length < lim then (match zs[j.toNat]? with
        | some d => .ok (.nx ((ρ.set i (.own (.lst (zs.eraseIdx j.toNat)))).set h0 (.own (.lst (es ++ [d]))))) s
        | none => .no) else .no
      | _ => .no)) := q
  by_cases hi : h0 = i
  · rw [if_pos hi] at q; exact q.elim
  rw [if_neg hi] at q
  obtain ⟨b, m1, m2, m3, m4, m5⟩ := g.ownAt hs0
  obtain ⟨ws, w1, w2⟩ := top_lst m4
  obtain ⟨a, k1, k2, k3, k4, k5⟩ := g.ownAt hs
  obtain ⟨xs, t1, t2⟩ := top_lst k4
  refine ⟨.ref b, m1, .inl ⟨rfl, ws, SqL.of w1⟩, .ref a, k1, .inl ⟨rfl, xs, SqL.of t1⟩, G, ds, g.ei, tS_seq (f := fun x s => (match x with
      | .int j => if 0 ≤ j ∧ j ≤ lim ∧ es.length < lim then (match zs[j.toNat]? with
        | some d => .ok (.nx ((ρ.set i (.own (.lst (zs.eraseIdx j.toNat)))).set h0 (.own (.lst (es ++ [d]))))) s
        | none => .no) else .no
      | _ => .no)) g q fun G1 H1 v d ds1 n s t g1 r q1 => ?_⟩
  obtain ⟨j, rfl⟩ : ∃ j, d = .int j := by
    cases d <;> first | exact ⟨_, rfl⟩ | exact q1.elim
  have q1 : PostS c E0 fr Ge He G1 D (if 0 ≤ j ∧ j ≤ lim ∧ es.length < lim then (match zs[j.toNat]? with
        | some d => .ok (.nx ((ρ.set i (.own (.lst (zs.eraseIdx j.toNat)))).set h0 (.own (.lst (es ++ [d]))))) ds1
        | none => .no) else .no) := q1
  by_cases hj : 0 ≤ j ∧ j ≤ lim ∧ es.length < lim
  · rw [if_pos hj] at q1
    cases hd : zs[j.toNat]? with
    | none => rw [hd] at q1; exact q1.elim
    | some d =>
      rw [hd] at q1
      have q1 : PostS c E0 fr Ge He G1 D (.ok (.nx ((ρ.set i (.own (.lst (zs.eraseIdx j.toNat)))).set h0 (.own (.lst (es ++ [d]))))) ds1) := q1
      obtain ⟨a', j1, j2, j3, j4, j5⟩ := g1.ownAt hs
      rw [k1] at j1
      cases j1
      obtain ⟨ys, v, u1, u2, u3, u4, u5, u6, u7⟩ := pop_at j4 hj.1 hd hj.2.1
      have g2 := g1.mut hs k1 u7
      have hs0' : (ρ.set i (.own (.lst (zs.eraseIdx j.toNat))))[h0]? = some (.own (.lst es)) := by rw [List.getElem?_set_ne (Ne.symm hi)]; exact hs0
      obtain ⟨b', n1, n2, n3, n4, n5⟩ := g2.ownAt hs0'
      rw [m1] at n1
      cases n1
      obtain ⟨vs, z1, z2⟩ := top_lst n4
      refine ⟨a, ys, j, j.toNat, v, rfl, by rw [ro_int r], u1, u2, u3, u4, u5, b, vs, v, rfl, rfl, z1, by rw [z2.len, ← lim_eq]; exact hj.2.2, q1 G1 _ σ (g2.mut hs0' m1 (upd_lst (z2.append (.cons u6 .nil)))) (Sub.refl _)⟩
  · rw [if_neg hj] at q1; exact q1.elim
/-! ### return, break -/
theorem st_ret {e : E} {st : Stmt} (hX : StCx Γ c cf ar k N sc E0 X) (h : chkS Γ N sc (.ret e) st = true) : PS X st (tX c E0 fr Ge He (exec Γ cf fr W (.ret e))) := by
  unfold chkS at h
  split at h <;> first | (cases h; done) | skip
  all_goals first | (rename_i hq _ ; cases hq; done) | (rename_i hq; cases hq; done) | skip
  rename_i e' y sp heq
  cases heq
  -- what is read alone: a name's
  have nm : mdOf Γ e = .rd → ∃ i, e = .rv i := by
    intro hm
    unfold mdOf at hm
    split at hm <;> first | exact ⟨_, rfl⟩ | (cases hm; done) | (split at hm <;> cases hm)
  by_cases hm : mdOf Γ e = .rd
  · obtain ⟨i, rfl⟩ := nm hm
    cases y <;> first | (simp [chk] at h; done) | skip
    simp only [chk] at h
    refine ps_ex fun ρ => ps_imp (ps_ret (var_of hX.toCxOk h)) fun D σ H q => ?_
    obtain ⟨G, ds, g, q⟩ := q
    simp only [exec, ev] at q
    cases hs : ρ[i]? with
    | none => rw [hs] at q; exact q.elim
    | some s =>
      rw [hs] at q
      cases s with
      | no => exact q.elim
      | sh d =>
        have q : PostS c E0 fr Ge He G D (if retOk Γ fr (.rv i) d ρ = true then .ok (.rt d) ds else .no) := q
        obtain ⟨v, h1, h2⟩ := g.ei.sl i _ hs
        refine ⟨v, h1, ?_⟩
        by_cases ok : retOk Γ fr (.rv i) d ρ = true
        · rw [if_pos ok] at q
          refine q G H v g.ei.on g.sp g.ei.st ?_
          cases fr with
          | false => exact h2
          | true =>
            unfold retOk at ok
            simp only [hs] at ok
            exact .inl ⟨h2, by simpa using ok⟩
        · rw [if_neg ok] at q; exact q.elim
      | own d =>
        have q : PostS c E0 fr Ge He G D (if retOk Γ fr (.rv i) d ρ = true then .ok (.rt d) ds else .no) := q
        obtain ⟨p, h1, h2, h3, h4, h5⟩ := g.ownAt hs
        refine ⟨.ref p, h1, ?_⟩
        have ok : retOk Γ fr (.rv i) d ρ = true := by
          unfold retOk
          simp [hs]
        rw [if_pos ok] at q
        cases fr with
        | true => exact q G H _ g.ei.on g.sp g.ei.st (.inr ⟨p, rfl, h5, h2, h3, h4⟩)
        | false =>
          obtain ⟨o, ho, r⟩ := h4.know h2
          exact q _ H _ (g.ei.on.know ho) (g.sp.know h2 h5) g.ei.st r
  refine ps_ex fun ρ => ps_imp (ps_ret (s_E (ρ := ρ) e hX.toCxOk h).pe) fun D σ H q => ?_
  have q : tS c E0 fr Ge He ρ (fun ds => (ev Γ cf e ρ ds).bind fun d s => if retOk Γ fr e d ρ then .ok (.rt d) s else .no) D σ H := by
    obtain ⟨G, ds, g, q⟩ := q
    simp only [exec] at q
    exact ⟨G, ds, g, q⟩
  refine tS_E (m := mdOf Γ e) q fun G H1 G1 v d ds ds1 g n s t g1 r q1 => ?_
  by_cases ok : retOk Γ fr e d ρ = true
  rotate_left
  · rw [if_neg ok] at q1; exact q1.elim
  rw [if_pos ok] at q1
  have q1 : PostS c E0 fr Ge He G1 D (.ok (.rt d) ds1) := q1
  have fin : ∀ G', Sub G1 G' → On G' H1 → Stp c.toCf Ge He G' H1 → RO c.toCf (if fr then .fr else .rep) He G' H1 v d → D.rt v H1 := fun G' _ n' s' r' => q1 G' H1 v n' s' t r'
  cases fr with
  | false =>
    cases hmd : mdOf Γ e with
    | rd => exact absurd hmd hm
    | rep => rw [hmd] at r; exact fin G1 (Sub.refl _) n g1.sp r
    | fr =>
      rw [hmd] at r
      obtain ⟨G', e1, n1, s1, r1⟩ := RO.settle (G0 := Ge) (H0 := He) (mono_ro .fr He H G1 H1 v d (fun p hp => g.sp.fresh g.ei.st hp) r) n g1.sp
      exact fin G' e1 n1 s1 r1
  | true =>
    have nrv : ∀ i, e ≠ .rv i := fun i z => hm (by rw [z]; rfl)
    have ok2 : mdOf Γ e = .fr ∨ isC d = false := by
      unfold retOk at ok
      cases e <;> first | (exact absurd rfl (nrv _)) | simpa using ok
    cases hmd : mdOf Γ e with
    | rd => exact absurd hmd hm
    | rep =>
      rw [hmd] at r ok2
      rcases ok2 with ok2 | ok2
      · cases ok2
      · exact fin G1 (Sub.refl _) n g1.sp (.inl ⟨r, ok2⟩)
    | fr =>
      rw [hmd] at r
      exact fin G1 (Sub.refl _) n g1.sp (mono_ro .fr He H G1 H1 v d (fun p hp => g.sp.fresh g.ei.st hp) r)
theorem ro_non' {c : Cf} {fr : Bool} {H0 G H : Hp} : RO c (if fr then .fr else .rep) H0 G H .non .non := by
  cases fr with
  | false => exact Rep.non
  | true => exact .inl ⟨.non, rfl⟩
theorem st_retN {st : Stmt} (h : chkS Γ N sc .retN st = true) : PS X st (tX c E0 fr Ge He (exec Γ cf fr W .retN)) := by
  unfold chkS at h
  split at h <;> first | (cases h; done) | skip
  all_goals first | (rename_i hq _ ; cases hq; done) | (rename_i hq; cases hq; done) | skip
  refine ps_imp ps_retN fun D σ H ⟨ρ, G, ds, g, q⟩ => ?_
  simp only [exec] at q
  exact q G H .non g.ei.on g.sp g.ei.st ro_non'
theorem st_brk {st : Stmt} (h : chkS Γ N sc .brk st = true) : PS X st (tX c E0 fr Ge He (exec Γ cf fr W .brk)) := by
  unfold chkS at h
  split at h <;> first | (cases h; done) | skip
  all_goals first | (rename_i hq _ ; cases hq; done) | (rename_i hq; cases hq; done) | skip
  refine ps_imp ps_break fun D σ H ⟨ρ, G, ds, g, q⟩ => ?_
  simp only [exec] at q
  exact q G H σ g (Sub.refl _)
theorem st_cont {st : Stmt} (h : chkS Γ N sc .cont st = true) : PS X st (tX c E0 fr Ge He (exec Γ cf fr W .cont)) := by
  unfold chkS at h
  split at h <;> first | (cases h; done) | skip
  all_goals first | (rename_i hq _ ; cases hq; done) | (rename_i hq; cases hq; done) | skip
  refine ps_imp ps_continue fun D σ H ⟨ρ, G, ds, g, q⟩ => ?_
  simp only [exec] at q
  exact q G H σ g (Sub.refl _)
end
end IR
end
section
set_option Elab.async false
set_option linter.all false
set_option maxRecDepth 100000
set_option maxHeartbeats 4100000
namespace IR
open L2 PySem PySem.Spec PyProof.Rows
section
variable {Γ : Gm} {c : Cg} {cf : Nat → List D → DS → Out D} {ar : Nat → Nat} {k : Nat} {N : List Str} {sc : Scope} {E0 : XK} {X : Cx} {ρ : Env} {fr : Bool} {Ge He : Hp} {W : Nat} {x y z : PySem.Expr}
theorem pss_never' {st : List Stmt} {t : TS} (h : ∀ D σ H, ¬ t D σ H) : PSs X st t := ⟨fun _ _ σ H D _ q => (h D σ H q).elim⟩
theorem ps_never' {st : Stmt} {t : TS} (h : ∀ D σ H, ¬ t D σ H) : PS X st t := ⟨fun _ _ σ H D _ q => (h D σ H q).elim⟩
def AllS (Γ : Gm) (c : Cg) (cf : Nat → List D → DS → Out D) (N : List Str) (sc : Scope) (E0 : XK) (X : Cx) (fr : Bool) (Ge He : Hp) (W n : Nat) : Prop :=
  ∀ (S : S) (sts : List Stmt), sizeOf S < n → chkSs Γ N sc S sts = true → PSs X sts (tX c E0 fr Ge He (exec Γ cf fr W S))
theorem st_if {t : E} {a b : S} {st : Stmt} {n : Nat} (hX : StCx Γ c cf ar k N sc E0 X) (ih : AllS Γ c cf N sc E0 X fr Ge He W n) (hn : sizeOf (S.if_ t a b) < n + 1) (h : chkS Γ N sc (.if_ t a b) st = true) : PS X st (tX c E0 fr Ge He (exec Γ cf fr W (.if_ t a b))) := by
  unfold chkS at h
  split at h <;> first | (cases h; done) | skip
  all_goals first | (rename_i hq _ ; cases hq; done) | (rename_i hq; cases hq; done) | skip
  rename_i t' a' b' u xs ys sp heq
  cases heq
  (simp only [Bool.and_eq_true] at h)
  (obtain ⟨⟨⟨h1, h2⟩, h3⟩, h4⟩ := h)
  refine ps_ex fun ρ => ps_imp (ps_if ((s_E (ρ := ρ) t hX.toCxOk h1).pt h2) (ih a xs (by simp at hn; omega) h3) (ih b ys (by simp at hn; omega) h4)) fun D σ H q => ?_
  have q : tS c E0 fr Ge He ρ (fun ds => (ev Γ cf t ρ ds).bind fun x s => onB x ((fun s t => if t then exec Γ cf fr W a ρ s else exec Γ cf fr W b ρ s) s)) D σ H := by
    obtain ⟨G, ds, g, q⟩ := q
    simp only [exec] at q
    exact ⟨G, ds, g, q⟩
  refine tS_T (f := fun s t => if t then exec Γ cf fr W a ρ s else exec Γ cf fr W b ρ s) q fun G1 H1 b' ds1 g1 q1 => ?_
  cases b' with
  | true => exact ⟨ρ, G1, ds1, g1, q1⟩
  | false => exact ⟨ρ, G1, ds1, g1, q1⟩
theorem st_for {p : Pt} {it : It} {b : S} {st : Stmt} {n : Nat} (hX : StCx Γ c cf ar k N sc E0 X) (ih : AllS Γ c cf N sc E0 X fr Ge He W n) (hn : sizeOf (S.for_ p it b) < n + 1) (h : chkS Γ N sc (.for_ p it b) st = true) : PS X st (tX c E0 fr Ge He (exec Γ cf fr W (.for_ p it b))) := by
  unfold chkS at h
  split at h <;> first | (cases h; done) | skip
  all_goals first | (rename_i hq _ ; cases hq; done) | (rename_i hq; cases hq; done) | skip
  rename_i p' it' b' tg iter xs sp heq
  cases heq
  (simp only [Bool.and_eq_true] at h)
  obtain ⟨⟨h1, h2⟩, h3⟩ := h
  have lo : LocOk sc X := fun x hx => ⟨loc_of hX.toCxOk hx, .inl (hX.fs x)⟩
  refine ps_ex fun ρ => ?_
  obtain ⟨hi, hset⟩ := s_It (ρ := ρ) it hX.toCxOk h1
  refine ps_imp (ps_for hX.po hX.calm hi (pg_pt hX.hN hX.nd hX.calm lo p h2) (ih b xs (by simp at hn; omega) h3) hset) fun D σ H q => ?_
  obtain ⟨G, ds, g, q⟩ := q
  simp only [exec] at q
  refine ⟨G, ds, g.ei, tS_seq (f := fun ds s => forM (fun ρ s => exec Γ cf fr W b ρ s) p ds ρ s) g q fun G1 H1 J items ds1 n1 s1 t1 g1 r q1 => ?_⟩
  obtain ⟨Cd, jw, stab, cd⟩ := r
  refine ⟨fun i m σ' H' => ∃ G2 ρ2 ds2, GI c.toCf Ge He G2 σ' ρ2 H' ds2 ∧ Sub G1 G2 ∧ m = items.length - i ∧ PostS c E0 fr Ge He G1 D (forM (fun ρ s => exec Γ cf fr W b ρ s) p (items.drop i) ρ2 ds2), ⟨_, G1, ρ, ds1, g1, Sub.refl _, rfl, q1⟩, ?_⟩
  rintro i m σ' H' ⟨G2, ρ2, ds2, g2, sb, hm, q2⟩
  have cd2 : Cd G2 H' := stab G1 H1 G2 H' (fun _ => sb) (fun z => by cases z) cd
  by_cases hi : items.length ≤ i
  · left
    refine ⟨jw.stop i G2 H' g2.ei.on cd2 hi, ?_⟩
    rw [List.drop_eq_nil_of_le hi] at q2
    exact q2 G2 H' σ' g2 sb
  · right
    have hi' : i < items.length := by omega
    have hd : items[i]? = some items[i] := List.getElem?_eq_getElem hi'
    generalize items[i] = d at hd
    have hdrop : items.drop i = d :: items.drop (i + 1) := by
      rw [List.drop_eq_getElem_cons hi']
      have := List.getElem?_eq_getElem hi'
      rw [hd] at this
      rw [Option.some.inj this]
    rw [hdrop] at q2
    refine ⟨jw.go i G2 H' d g2.ei.on cd2 hd, fun σ3 H3 => ∃ G3 ρ3 ds3, GI c.toCf Ge He G3 σ3 ρ3 H3 ds3 ∧ Sub G1 G3 ∧ PostS c E0 fr Ge He G1 D (forM (fun ρ s => exec Γ cf fr W b ρ s) p (items.drop (i + 1)) ρ3 ds3), fun σ3 H3 z => ?_, fun x H3 hy => ?_⟩
    · obtain ⟨G3, ρ3, ds3, a1, a2, a3⟩ := z
      exact ⟨items.length - (i + 1), by omega, G3, ρ3, ds3, a1, a2, rfl, a3⟩
    · obtain ⟨G3, n3, s3, t3, rx⟩ := jw.yl i G2 H' x H3 d ds2 g2.ei.on g2.ei.tn g2.ei.st cd2 hd hy
      have g3 := g2.step n3 s3 t3
      have sb3 := sb.trans s3.ex
      simp only [forM] at q2
      cases ha : asgP p d ρ2 with
      | none => rw [ha] at q2; exact q2.elim
      | some ρ3 =>
        rw [ha] at q2
        refine g3.tg rx ha fun σ2 _ g4 => ⟨ρ3, G3, ds2, g4, ?_⟩
        have q2 : PostS c E0 fr Ge He G1 D ((exec Γ cf fr W b ρ3 ds2).bind fun fl s => match fl with
          | .nx ρ2 => forM (fun ρ s => exec Γ cf fr W b ρ s) p (items.drop (i + 1)) ρ2 s
          | .ct ρ2 => forM (fun ρ s => exec Γ cf fr W b ρ s) p (items.drop (i + 1)) ρ2 s
          | .bk ρ2 => .ok (.nx ρ2) s
          | .rt d => .ok (.rt d) s) := q2
        cases he : exec Γ cf fr W b ρ3 ds2 with
        | no => rw [he] at q2; exact q2
        | er _ _ _ => rw [he] at q2; exact q2
        | ok fl ds4 =>
          rw [he] at q2
          cases fl with
          | nx ρ4 => exact fun G' H'' σ'' g' z => ⟨G', ρ4, ds4, g', sb3.trans z, q2⟩
          | ct ρ4 => exact fun G' H'' σ'' g' z => ⟨G', ρ4, ds4, g', sb3.trans z, q2⟩
          | bk ρ4 =>
            have q2 : PostS c E0 fr Ge He G1 D (.ok (.nx ρ4) ds4) := q2
            exact fun G' H'' σ'' g' z => q2 G' H'' σ'' g' (sb3.trans z)
          | rt d => exact q2
theorem st_wh {t : E} {b : S} {st : Stmt} {n : Nat} (hX : StCx Γ c cf ar k N sc E0 X) (ih : AllS Γ c cf N sc E0 X fr Ge He W n) (hn : sizeOf (S.wh t b) < n + 1) (h : chkS Γ N sc (.wh t b) st = true) : PS X st (tX c E0 fr Ge He (exec Γ cf fr W (.wh t b))) := by
  unfold chkS at h
  split at h <;> first | (cases h; done) | skip
  all_goals first | (rename_i hq _ ; cases hq; done) | (rename_i hq; cases hq; done) | skip
  rename_i t' b' u xs sp heq
  cases heq
  (simp only [Bool.and_eq_true] at h)
  obtain ⟨⟨h1, h2⟩, h3⟩ := h
  refine ps_imp (ps_while hX.po (pt_ex fun ρ => (s_E (ρ := ρ) t hX.toCxOk h1).pt h2) (ih b xs (by simp at hn; omega) h3)) fun D σ H q => ?_
  obtain ⟨ρ0, G0, ds0, g0, q0⟩ := q
  simp only [exec] at q0
  refine ⟨fun m σ' H' => ∃ G2 ρ2 ds2, GI c.toCf Ge He G2 σ' ρ2 H' ds2 ∧ PostS c E0 fr Ge He G2 D (whM (fun ρ s => ev Γ cf t ρ s) (fun ρ s => exec Γ cf fr W b ρ s) m ρ2 ds2), ⟨W, G0, ρ0, ds0, g0, q0⟩, ?_⟩
  rintro m σ' H' ⟨G2, ρ2, ds2, g2, q2⟩
  cases m with
  | zero => exact q2.elim
  | succ m =>
    simp only [whM] at q2
    refine ⟨ρ2, tS_T (f := fun s bb => if bb then ((exec Γ cf fr W b ρ2 s).bind fun fl s => (match fl with
      | .nx ρ2 => whM (fun ρ s => ev Γ cf t ρ s) (fun ρ s => exec Γ cf fr W b ρ s) m ρ2 s
      | .ct ρ2 => whM (fun ρ s => ev Γ cf t ρ s) (fun ρ s => exec Γ cf fr W b ρ s) m ρ2 s
      | .bk ρ2 => .ok (.nx ρ2) s
      | .rt d => .ok (.rt d) s)) else .ok (.nx ρ2) s) (R := fun b1 H1 => if b1 = true then ∃ N : L2.St → Hp → Prop, (∀ σ'' H'', N σ'' H'' → ∃ m', m' < m + 1 ∧ ∃ G2 ρ2 ds2, GI c.toCf Ge He G2 σ'' ρ2 H'' ds2 ∧ PostS c E0 fr Ge He G2 D (whM (fun ρ s => ev Γ cf t ρ s) (fun ρ s => exec Γ cf fr W b ρ s) m' ρ2 ds2)) ∧
        tX c E0 fr Ge He (exec Γ cf fr W b) { D with nx := N, ct := N, bk := D.nx } σ' H1 else D.nx σ' H1) ⟨G2, ds2, g2, q2⟩ fun G1 H1 b1 ds1 g1 q1 => ?_⟩
    cases b1 with
    | false => 
      have q1 : PostS c E0 fr Ge He G1 D (.ok (.nx ρ2) ds1) := q1
      exact q1 G1 H1 σ' g1 (Sub.refl _)
    | true =>
      have q1 : PostS c E0 fr Ge He G1 D ((exec Γ cf fr W b ρ2 ds1).bind fun fl s => (match fl with
        | .nx ρ2 => whM (fun ρ s => ev Γ cf t ρ s) (fun ρ s => exec Γ cf fr W b ρ s) m ρ2 s
        | .ct ρ2 => whM (fun ρ s => ev Γ cf t ρ s) (fun ρ s => exec Γ cf fr W b ρ s) m ρ2 s
        | .bk ρ2 => .ok (.nx ρ2) s
        | .rt d => .ok (.rt d) s)) := q1
      refine ⟨fun σ'' H'' => ∃ G3 ρ3 ds3, GI c.toCf Ge He G3 σ'' ρ3 H'' ds3 ∧ PostS c E0 fr Ge He G3 D (whM (fun ρ s => ev Γ cf t ρ s) (fun ρ s => exec Γ cf fr W b ρ s) m ρ3 ds3), fun σ'' H'' z => ⟨m, by omega, z⟩, ρ2, G1, ds1, g1, ?_⟩
      cases he : exec Γ cf fr W b ρ2 ds1 with
      | no => rw [he] at q1; exact q1
      | er _ _ _ => rw [he] at q1; exact q1
      | ok fl ds4 =>
        rw [he] at q1
        cases fl with
        | nx ρ4 => exact fun G' H'' σ'' g' z => ⟨G', ρ4, ds4, g', PostS.sub q1 z⟩
        | ct ρ4 => exact fun G' H'' σ'' g' z => ⟨G', ρ4, ds4, g', PostS.sub q1 z⟩
        | bk ρ4 => exact q1
        | rt d => exact q1
theorem st_one {s : S} {st : Stmt} {n : Nat} (hX : StCx Γ c cf ar k N sc E0 X) (ih : AllS Γ c cf N sc E0 X fr Ge He W n) (hn : sizeOf s < n + 1) (h : chkS Γ N sc s st = true) : PS X st (tX c E0 fr Ge He (exec Γ cf fr W s)) := by
  cases s with
  | skip => exact st_skip h
  | seq a b => cases st <;> simp [chkS] at h
  | asg i e => exact st_asg hX h
  | par is es => exact st_par hX h
  | unp p e => exact st_unp hX h
  | app i e => exact st_app hX h
  | ext i e => exact st_ext hX h
  | seti i k e => exact st_seti hX h
  | pop p i k => exact st_pop hX h
  | apop a i k => exact st_apop hX h
  | ex e => exact st_ex hX h
  | if_ t a b => exact st_if hX ih hn h
  | for_ p it b => exact st_for hX ih hn h
  | wh t b => exact st_wh hX ih hn h
  | ret e => exact st_ret hX h
  | retN => exact st_retN h
  | raise c e => cases st <;> simp [chkS] at h
  | brk => exact st_brk h
  | cont => exact st_cont h
  | frz is => cases st <;> simp [chkS] at h
  | bad => exact ps_never' fun D σ H ⟨ρ, G, ds, g, q⟩ => q
theorem all_S (hX : StCx Γ c cf ar k N sc E0 X) : ∀ n, AllS Γ c cf N sc E0 X fr Ge He W n
  | 0 => fun _ _ h => by omega
  | n + 1 => by
    have ih := all_S hX n
    intro s sts hn h
    have seq : ∀ (a b : S) (st : Stmt) (sts : List Stmt), sizeOf (S.seq a b) < n + 1 → chkS Γ N sc a st = true → chkSs Γ N sc b sts = true → PSs X (st :: sts) (tX c E0 fr Ge He (exec Γ cf fr W (.seq a b))) := by
      intro a b st sts hn h1 h2
      refine pss_imp (pss_cons (st_one hX ih (by simp at hn; omega) h1) (ih b sts (by simp at hn; omega) h2)) fun D σ H ⟨ρ, G, ds, g, q⟩ => ⟨ρ, G, ds, g, ?_⟩
      simp only [exec] at q
      cases he : exec Γ cf fr W a ρ ds with
      | no => rw [he] at q; exact q
      | er _ _ _ => rw [he] at q; exact q
      | ok fl ds1 =>
        rw [he] at q
        cases fl with
        | nx ρ1 => exact fun G' H' σ' g' z => ⟨ρ1, G', ds1, g', PostS.sub q z⟩
        | rt d => exact q
        | bk ρ1 => exact q
        | ct ρ1 => exact q
    unfold chkSs at h
    split at h
    · exact pss_imp pss_nil fun D σ H ⟨ρ, G, ds, g, q⟩ => by
        simp only [exec] at q
        exact q G H σ g (Sub.refl _)
    · rename_i is b
      refine pss_imp (ih b sts (by simp at hn; omega) h) fun D σ H ⟨ρ, G, ds, g, q⟩ => ?_
      simp only [exec, bind_ok] at q
      obtain ⟨G', s1, g1⟩ := GI.frz is g
      exact ⟨frzE ρ is, G', ds, g1, PostS.sub q s1⟩
    · rename_i a b st sts _
      (simp only [Bool.and_eq_true] at h)
      exact seq a b st sts hn h.1 h.2
    · exact pss_never' fun D σ H ⟨ρ, G, ds, g, q⟩ => q
    · cases h
theorem s_Ss (hX : StCx Γ c cf ar k N sc E0 X) {s : S} {sts : List Stmt} (h : chkSs Γ N sc s sts = true) : PSs X sts (tX c E0 fr Ge He (exec Γ cf fr W s)) := all_S hX (sizeOf s + 1) s sts (by omega) h
end
end IR
end
section
set_option Elab.async false
set_option linter.all false
set_option maxRecDepth 100000
set_option maxHeartbeats 4100000
namespace IR
open L2 PySem PySem.Spec PyProof.Rows
/-! ## defs -/
section
variable {Γ : Gm} {c : Cg} {tb : Nat → Fn} {ar : Nat → Nat} {P : Program} {w : World} {K : PySem.W.Frag} {mg : Str → Option Value} {base : Heap}
theorem start_get {N : List Str} {vs : List V} {j : Nat} {v : V} (h : vs[j]? = some v) : (L2.start N vs)[j]? = some (some v) := by
  unfold L2.start
  have hl : j < vs.length := by
    rw [List.getElem?_eq_some_iff] at h
    exact h.1
  rw [List.getElem?_append_left (by simpa using hl), List.getElem?_map, h]
  rfl
/-- a def of the text, by its small form -/
theorem fn_ir {x qual : Str} {params : Arguments} {body : List Stmt} {scope : Scope} {dvs : List V} {kws : List (Str × V)} {a : Addr} {fd : FuncData} {N ps : List Str} {b : S} {f k : Nat} (F : FunD K x qual params body scope dvs kws a fd) (S0 : FnScope N ps scope) (hf : tb f = .ir ps.length N.length b (Γ.fr f))
    (hc : chkSs Γ N scope b body = true) (g : GX Γ c (callM Γ tb k) ar k P w K mg base) : FnOk P w K mg base (L2.CX P w) (k + 1 + 1) a fd ps (spF Γ c (callM Γ tb (k + 1)) f ps.length) := by
  refine F.ok S0 (fun vs H Q E h => ?_) fun cdv A outer s H vs Q E hr h => ?_
  · obtain ⟨G, as, ds, _, _, _, _, hl, _⟩ := h
    exact hl
  · obtain ⟨G, as, ds, n, tn, st, rs, hl, p⟩ := h
    let X : Cx := cxOf (L2.CX P w) P w K mg base N qual scope a cdv A outer s H E
    have tk : Takes X (fun cls d _ H => E cls d H) := takes_of rfl rfl rfl rfl
    have hX : StCx Γ c (callM Γ tb k) ar k N scope E X := {
      hN := rfl
      hsc := rfl
      nd := S0.nd
      calm := rfl
      room := hr
      g := g
      pass := passes_call tk fun _ _ _ _ h => h
      fs := fun _ => rfl
      po := passes_of rfl
      kd := S0.kind }
    refine ⟨_, s_Ss (fr := Γ.fr f) (Ge := G) (He := H) (W := fuelW) hX hc, ?_⟩
    have hal : as.length = ps.length := by rw [← rs.len]; exact hl
    have hpl : ps.length ≤ N.length := by have := congrArg List.length S0.pre; rw [List.length_take] at this; omega
    simp only [callM, hf, runF, hal, if_true] at p
    generalize hρ : as.map Slot.sh ++ List.replicate (N.length - ps.length) Slot.no = ρ at p
    have noown : ∀ (j : Nat) (d : D), ρ[j]? ≠ some (Slot.own d) := fun j d q => by
      rw [← hρ] at q
      have m := List.mem_of_getElem? q
      rw [List.mem_append] at m
      rcases m with m | m
      · obtain ⟨z, _, e⟩ := List.mem_map.mp m
        cases e
      · have := (List.mem_replicate.mp m).2
        cases this
    have gi : GI c.toCf G H G (L2.start N vs) ρ H ds := by
      refine ⟨⟨?_, n, tn, st, fun j z hz => ?_⟩, Stp.refl _ _ _, fun j d p h1 _ => absurd h1 (noown j d), fun i j di dj p q _ h1 _ _ _ => absurd h1 (noown i di)⟩
      · rw [← hρ]
        unfold L2.start
        simp only [List.length_append, List.length_map, List.length_replicate]
        rw [hal, hl]
      · rw [← hρ] at hz
        by_cases hj : j < as.length
        · rw [List.getElem?_append_left (by simpa using hj), List.getElem?_map] at hz
          cases e : as[j]? with
          | none => rw [e] at hz; cases hz
          | some d =>
            rw [e] at hz
            cases hz
            obtain ⟨v, h1, h2⟩ := rs.get e
            exact ⟨v, start_get h1, h2⟩
        · rw [List.getElem?_append_right (by simpa using Nat.le_of_not_lt hj)] at hz
          have := (List.mem_replicate.mp (List.mem_of_getElem? hz)).2
          subst this
          trivial
    refine ⟨ρ, G, ds, gi, ?_⟩
    cases he : exec Γ (callM Γ tb k) (Γ.fr f) fuelW b ρ ds with
    | no => rw [he] at p; exact p
    | er m d dz =>
      rw [he] at p
      exact p
    | ok fl dz =>
      rw [he] at p
      cases fl with
      | rt d => exact p
      | nx ρ1 =>
        have p : Post c E (if Γ.fr f then .fr else .rep) G H (.ok .non dz) Q := p
        exact fun G' H' σ' g' _ => p G' H' .non g'.ei.on g'.sp g'.ei.st ro_non'
      | bk _ => exact p.elim
      | ct _ => exact p.elim
/-- where the text of a number stands, what it does -/
inductive Src (Γ : Gm) (c : Cg) (tb : Nat → Fn) (P : Program) (w : World) (K : PySem.W.Frag) (mg : Str → Option Value) (base : Heap) (f : Nat) (a : Addr) (fd : FuncData) (ps : List Str) : Prop
  | ir {x qual : Str} {params : Arguments} {body : List Stmt} {scope : Scope} {dvs : List V} {kws : List (Str × V)} {N : List Str} {b : S} (F : FunD K x qual params body scope dvs kws a fd) (S0 : FnScope N ps scope) (hf : tb f = .ir ps.length N.length b (Γ.fr f)) (hc : chkSs Γ N scope b body = true)
  | prim {l : Nat} {sem : List D → DS → Out D} (hf : tb f = .prim ps.length l sem) (h : FnOk P w K mg base (L2.CX P w) l a fd ps (spF Γ c (fun _ as ds => if as.length = ps.length then sem as ds else .no) f ps.length))
  | none (hf : tb f = .none)
theorem arn_call {Γ : Gm} {tb : Nat → Fn} {ar : Nat → Nat} (h : ∀ f, match tb f with | .ir a _ _ _ => a = ar f | .prim a _ _ => a = ar f | .none => True) : ∀ k f as ds, as.length ≠ ar f → callM Γ tb k f as ds = .no := by
  intro k f as ds hn
  cases k with
  | zero => rfl
  | succ k =>
    have q := h f
    unfold callM
    split
    · rename_i a n b fr e
      rw [e] at q
      have q : a = ar f := q
      unfold runF
      rw [if_neg (by rw [q]; exact hn)]
    · rename_i a l sem e
      rw [e] at q
      have q : a = ar f := q
      rw [if_neg (by rw [q]; exact fun z => hn z.1)]
    · rfl
theorem fn_src {f k : Nat} {a : Addr} {fd : FuncData} {ps : List Str} (s : Src Γ c tb P w K mg base f a fd ps) (g : GX Γ c (callM Γ tb k) ar k P w K mg base) : FnOk P w K mg base (L2.CX P w) (k + 1 + 1) a fd ps (spF Γ c (callM Γ tb (k + 1)) f ps.length) := by
  cases s with
  | ir F S0 hf hc => exact fn_ir F S0 hf hc g
  | @prim l sem hf h =>
    by_cases hl : l ≤ k + 1
    · refine (h.mono (Nat.le_succ_of_le hl)).imp fun vs H Q E ⟨G, as, ds, n, tn, st, rs, hvl, p⟩ => ⟨G, as, ds, n, tn, st, rs, hvl, ?_⟩
      unfold callM at p
      rw [hf] at p
      by_cases e : as.length = ps.length
      · simp only [e, hl, and_self, if_true] at p ⊢
        exact p
      · simp only [e, false_and, if_false] at p
        exact p.elim
    · refine ⟨fun vs H Q E ⟨_, _, _, _, _, _, _, hl, _⟩ => hl, fun A outer s H args us vs Q E _ _ _ _ ⟨G, as, ds, n, tn, st, rs, hvl, p⟩ => ?_⟩
      unfold callM at p
      rw [hf] at p
      simp only [hl, and_false, if_false] at p
      exact p.elim
  | none hf =>
    refine ⟨fun vs H Q E ⟨_, _, _, _, _, _, _, hl, _⟩ => hl, fun A outer s H args us vs Q E _ _ _ _ ⟨G, as, ds, n, tn, st, rs, hvl, p⟩ => ?_⟩
    unfold callM at p
    rw [hf] at p
    exact p.elim
theorem fn_zero {j f : Nat} {a : Addr} {fd : FuncData} {ps : List Str} : FnOk P w K mg base (L2.CX P w) j a fd ps (spF Γ c (callM Γ tb 0) f ps.length) :=
  ⟨fun vs H Q E ⟨_, _, _, _, _, _, _, hl, _⟩ => hl, fun A outer s H args us vs Q E _ _ _ _ ⟨G, as, ds, n, tn, st, rs, hvl, p⟩ => p.elim⟩
/-- an __init__ that is known by hand -/
structure Ini (Γ : Gm) (c : Cg) (tb : Nat → Fn) (ar : Nat → Nat) (P : Program) (w : World) (K : PySem.W.Frag) (mg : Str → Option Value) (base : Heap) (f C : Nat) : Prop where
  ex : ∃ (l : Nat) (sem : List D → DS → Out D) (a : Addr) (fd : FuncData) (ps : List Str), tb f = .prim (ar f) (l + 1) sem ∧ Mk K (c.cl C) a ∧ Binds K fd ps [] ∧ ps.length = ar f + 1 ∧
    FnOk P w K mg base (L2.CX P w) l a fd ps (spN c (fun _ as ds => if as.length = ar f then sem as ds else .no) f C (ar f + 1))
/-- all that is known of the text -/
structure Tx (Γ : Gm) (c : Cg) (tb : Nat → Fn) (ar : Nat → Nat) (P : Program) (w : World) (K : PySem.W.Frag) (mg : Str → Option Value) (base : Heap) : Prop where
  arn : ∀ f, match tb f with | .ir a _ _ _ => a = ar f | .prim a _ _ => a = ar f | .none => True
  fn : ∀ f x, Γ.fn f = some x → ∃ a fd ps, mg x = some (.ref a) ∧ PySem.W.keepIn K (.ref a) = true ∧ Binds K fd ps [] ∧ ps.length = ar f ∧ Src Γ c tb P w K mg base f a fd ps
  mt : ∀ f C m, Γ.mt f = some (C, m) → ∃ a fd ps, (Γ.cls C).isSome = true ∧ Meth K (c.cl C) m a ∧ Binds K fd ps [] ∧ ps.length = ar f ∧ Src Γ c tb P w K mg base f a fd ps
  nw : ∀ f C, Γ.nw f = some C → Ini Γ c tb ar P w K mg base f C
  cls : ∀ C x, Γ.cls C = some x → mg x = some (.ref (c.cl C)) ∧ ClsOk Γ c.toCf K C
  free : ∀ x, Γ.free.contains x = true → mg x = none
  gs : ∀ x z, Γ.gs.contains (x, z) = true → ∃ t, mg x = some (.str z t)
theorem ini_at {f C k : Nat} (s : Ini Γ c tb ar P w K mg base f C) : ∃ k0 a fd ps, k0 + 1 ≤ k + 1 ∧ Mk K (c.cl C) a ∧ Binds K fd ps [] ∧ ps.length = ar f + 1 ∧ FnOk P w K mg base (L2.CX P w) k0 a fd ps (spN c (callM Γ tb k) f C (ar f + 1)) := by
  obtain ⟨l, sem, a, fd, ps, h1, h2, h3, h4, h5⟩ := s.ex
  have dead : (∀ as ds, callM Γ tb k f as ds = .no) → FnOk P w K mg base (L2.CX P w) 0 a fd ps (spN c (callM Γ tb k) f C (ar f + 1)) := fun hno =>
    ⟨fun vs H Q E ⟨_, _, _, _, _, as, ds, _, _, _, _, _, _, _, _, _, _, p⟩ => by rw [hno] at p; exact p.elim, fun A outer s H args us vs Q E _ _ _ _ ⟨_, _, _, _, _, as, ds, _, _, _, _, _, _, _, _, _, _, p⟩ => by rw [hno] at p; exact p.elim⟩
  cases k with
  | zero => exact ⟨0, a, fd, ps, by omega, h2, h3, h4, dead fun _ _ => rfl⟩
  | succ k =>
    by_cases hl : l + 1 ≤ k + 1
    · refine ⟨l, a, fd, ps, by omega, h2, h3, h4, h5.imp fun vs H Q E ⟨G, H0, x, dx, ws, as, ds, q1, q2, q3, q4, q5, q6, q7, q8, q9, q10, p⟩ => ⟨G, H0, x, dx, ws, as, ds, q1, q2, q3, q4, q5, q6, q7, q8, q9, q10, ?_⟩⟩
      have e : callM Γ tb (k + 1) f as ds = (if as.length = ar f then sem as ds else .no) := by
        unfold callM
        rw [h1]
        by_cases e : as.length = ar f
        · simp only [e, hl, and_self, if_true]
        · simp only [e, false_and, if_false]
      rw [e] at p
      exact p
    · refine ⟨0, a, fd, ps, by omega, h2, h3, h4, dead fun as ds => ?_⟩
      unfold callM
      rw [h1]
      simp only [hl, and_false, if_false]
/-- every def at every depth -/
theorem gx (t : Tx Γ c tb ar P w K mg base) : ∀ k, GX Γ c (callM Γ tb k) ar k P w K mg base := by
  intro k
  induction k with
  | zero =>
    exact {
      arn := arn_call t.arn 0
      fn := fun f x h => by
        obtain ⟨a, fd, ps, h1, h2, h3, h4, h5⟩ := t.fn f x h
        exact ⟨a, fd, ps, h1, h2, h3, h4, h4 ▸ fn_zero⟩
      mt := fun f C m h => by
        obtain ⟨a, fd, ps, h1, h2, h3, h4, h5⟩ := t.mt f C m h
        exact ⟨a, fd, ps, h1, h2, h3, h4, h4 ▸ fn_zero⟩
      nw := fun f C h => ini_at (t.nw f C h)
      cls := t.cls
      free := t.free
      gs := t.gs }
  | succ k ih =>
    exact {
      arn := arn_call t.arn (k + 1)
      fn := fun f x h => by
        obtain ⟨a, fd, ps, h1, h2, h3, h4, h5⟩ := t.fn f x h
        exact ⟨a, fd, ps, h1, h2, h3, h4, h4 ▸ fn_src h5 ih⟩
      mt := fun f C m h => by
        obtain ⟨a, fd, ps, h1, h2, h3, h4, h5⟩ := t.mt f C m h
        exact ⟨a, fd, ps, h1, h2, h3, h4, h4 ▸ fn_src h5 ih⟩
      nw := fun f C h => ini_at (t.nw f C h)
      cls := t.cls
      free := t.free
      gs := t.gs }
end
end IR
end
section
set_option Elab.async false
set_option linter.all false
set_option maxRecDepth 100000
set_option maxHeartbeats 4100000
namespace IR
open L2 PySem PySem.Spec PyProof.Rows
/-! ## the draws -/
/-- cells are taken while there is no number -/
def pickL : List Int → Int → Int → List Int × Int × Int
  | [], cur, mix => ([], cur, mix)
  | x :: r, cur, mix => if cur = 0 then
      let cell := if x < 0 then -x else x
      pickL r (if 10 ^ 18 ≤ cell then cell else 0) ((mix * 6151 + cell + 5) % 2147483647)
    else (x :: r, cur, mix)
def pickS (many : Int) (s : DS) : Out D :=
  if 0 < many ∧ many < 1073741824 ∧ 0 ≤ s.cur ∧ 0 ≤ s.n ∧ s.n < 2 ^ 40 ∧ 0 ≤ s.mix ∧ s.mix < 2147483647 then
    (match pickL s.cells s.cur s.mix with
    | (cells, cur, mix) => if 0 < cur then .ok (.int (cur % many)) ⟨cells, cur / many, s.n + 1, mix⟩
      else .ok (.int ((((((mix + 7907 * (s.n + 1) + 104723) ^ 5) % 2147483629) * 48271 + 30011 * (s.n + 1) + 31) ^ 3) % 1000000007 % many)) ⟨cells, cur, s.n + 1, mix⟩)
  else .no
def pickF : List D → DS → Out D
  | [.st, .int many], s => pickS many s
  | _, _ => .no
end IR
end
section
set_option Elab.async false
set_option linter.all false
set_option maxRecDepth 100000
set_option maxHeartbeats 4100000
namespace IR
open L2 PySem PySem.Spec PyProof.Rows
/-! ## _law_pick -/
section
variable {X : Cx} {p1 p2 p3 p4 : Pos} {j1 : Nat}
theorem plain_const {k : Const} {j : Nat} {p : Pos} : PlainIx (.Constant k j p) := fun _ _ => rfl
/-- state[k] -/
def tSt (k : Nat) : TE := fun σ H Q => ∃ s xs v, σ[0]? = some (some (V.ref s)) ∧ H s = some (.lst xs) ∧ xs[k]? = some v ∧ Q v H
theorem pe_st {k : Nat} {n : Str} (hv : PE X (.Name n p1) (tVar 0)) : PE X (.Subscript (.Name n p1) (.Constant (.int (k : Int)) j1 p2) p3) (tSt k) := by
  refine pe_imp (pe_ix ix_seq hv pe_int plain_const) fun σ H Q ⟨s, xs, v, h1, h2, h3, q⟩ => ⟨.ref s, h1, ?_⟩
  refine .inl ⟨s, xs, (k : Int), v, rfl, rfl, SqL.of h2, ?_, q⟩
  have hl : k < xs.length := by
    rw [List.getElem?_eq_some_iff] at h3
    exact h3.1
  unfold atI ixN
  (rw [if_pos (by omega), if_pos (by omega)])
  simpa using h3
/-- state[k] = e -/
def tPut (k : Nat) (te : TE) : TS := tAsg te (gSub (tVar 0) (tC (.int (k : Int))) rSetL)
theorem ps_put {k : Nat} {n : Str} {e : PySem.Expr} {te : TE} (hv : PE X (.Name n p1) (tVar 0)) (he : PE X e te) (hc : notComp e = true) : PS X (.Assign [.Subscript (.Name n p1) (.Constant (.int (k : Int)) j1 p2) p3] e p4) (tPut k te) :=
  ps_asg he (pg_sub hv pe_int set_list (fun _ => rfl)) (show swapsWith e (some (.Subscript (.Name n p1) (.Constant (.int (k : Int)) j1 p2) p3)) p4.line X.env = pure false from sw_not hc) rfl rfl
theorem put_wp {k : Nat} {v : V} {σ : L2.St} {H1 : Hp} {s : Addr} {xs : List V} {Q : L2.St → Hp → Prop} (h1 : σ[0]? = some (some (V.ref s))) (h2 : H1 s = some (.lst xs)) (h3 : k < xs.length) (q : Q σ (upd H1 s (.lst (xs.set k v)))) : gSub (tVar 0) (tC (.int (k : Int))) rSetL v σ H1 Q := by
  refine ⟨.ref s, h1, s, xs, (k : Int), k, rfl, rfl, h2, ?_, q⟩
  unfold ixN
  (rw [if_pos (by omega), if_pos (by omega)])
  simp
end
abbrev pickN : List Str := ["state", "many", "cell", "digit", "mixed"]
structure PkX (X : Cx) : Prop where
  N : X.N = pickN
  calm : X.calm = true
  lo : ∀ x ∈ pickN, X.env.scope.names.lookup x = some .local
  ga : Gl X "abs"
  gi : Gl X "int"
  ma : X.mg "abs" = none
  mi : X.mg "int" = none
  po : PassesOwn (model X.prog X.w) X.A X.env X.xe
  un : X.A.units + 65 < cLine
def Hst (s i : Addr) (H : Hp) (ds : DS) : Prop := H s = some (.lst [.ref i, .int ds.cur, .int ds.n, .int ds.mix]) ∧ H i = some (.lst (ds.cells.map V.int))
section
variable {X : Cx}
theorem PkX.pv (h : PkX X) (i : Nat) {x : Str} {p : Pos} (hN : pickN[i]? = some x) (hd : (x == ("__debug__" : Str)) = false := by decide) (hcd : (x == ("__classdict__" : Str)) = false := by decide) : PE X (.Name x p) (tVar i) :=
  pe_var (by rw [h.N]; exact hN) (.inl (h.lo x (List.mem_of_getElem? hN))) hd hcd
theorem PkX.set (h : PkX X) (i : Nat) {x : Str} {p p' : Pos} {e : PySem.Expr} {te : TE} (hN : pickN[i]? = some x) (he : PE X e te) (hc : notComp e = true) : PS X (.Assign [.Name x p] e p') (tAsg te (gName i)) :=
  ps_set (by rw [h.N]; decide) (by rw [h.N]; exact hN) (.inl (h.lo x (List.mem_of_getElem? hN))) he (sw_not hc) (.inr (h.lo x (List.mem_of_getElem? hN)))
theorem Hst.s {s i : Addr} {H : Hp} {cells : List Int} {cur n mix : Int} (ne : s ≠ i) (h : Hst s i H ⟨cells, cur, n, mix⟩) {cur' n' mix' : Int} : Hst s i (upd H s (.lst [.ref i, .int cur', .int n', .int mix'])) ⟨cells, cur', n', mix'⟩ :=
  ⟨upd_same, by rw [upd_ne (Ne.symm ne)]; exact h.2⟩
theorem Hst.i {s i : Addr} {H : Hp} {cells cells' : List Int} {cur n mix : Int} (ne : s ≠ i) (h : Hst s i H ⟨cells, cur, n, mix⟩) : Hst s i (upd H i (.lst (cells'.map V.int))) ⟨cells', cur, n, mix⟩ :=
  ⟨by rw [upd_ne ne]; exact h.1, upd_same⟩
def Fro (s i : Addr) (H H' : Hp) : Prop := ∀ a, H a ≠ none → a ≠ s → a ≠ i → H' a = H a
theorem Fro.refl (s i : Addr) (H : Hp) : Fro s i H H := fun _ _ _ _ => rfl
theorem Fro.s {s i : Addr} {H H' : Hp} {o : HO} (f : Fro s i H H') : Fro s i H (upd H' s o) := fun a h1 h2 h3 => by rw [upd_ne h2]; exact f a h1 h2 h3
theorem Fro.i {s i : Addr} {H H' : Hp} {o : HO} (f : Fro s i H H') : Fro s i H (upd H' i o) := fun a h1 h2 h3 => by rw [upd_ne h3]; exact f a h1 h2 h3
theorem Fro.new {s i p : Addr} {H H' : Hp} {o : HO} (f : Fro s i H H') (hp : H' p = none) (hs : H s ≠ none) (hi : H i ≠ none) : Fro s i H (upd H' p o) := fun a h1 h2 h3 => by
  have e := f a h1 h2 h3
  have : a ≠ p := fun z => h1 (by rw [← e, z]; exact hp)
  rw [upd_ne this]; exact e
theorem ints_dp {K : PySem.W.Frag} {H : Hp} : ∀ l : List Int, DpAll K H (l.map V.int) (l.map PyData.int)
  | [] => .nil
  | x :: r => .cons (.int x) (ints_dp r)
theorem ints_lay : ∀ l : List Int, PyData.canLayAll0 (l.map PyData.int) = true ∧ PyData.depthAll (l.map PyData.int) = 0
  | [] => ⟨rfl, rfl⟩
  | x :: r => by
    obtain ⟨h1, h2⟩ := ints_lay r
    exact ⟨by simp [PyData.canLayAll0, PyData.canLay0, h1], by simp [PyData.depthAll, PyData.depth, h2]⟩
theorem ints_shaped (l : List Int) : SeqAt.shaped (.list (l.map PyData.int)) = true := by
  obtain ⟨h1, h2⟩ := ints_lay l
  simp [SeqAt.shaped, PyData.canLay0, PyData.depth, h1, h2]
theorem ints_ne (l : List Int) : (!PyData.eqv (.list (l.map PyData.int)) (.list [])) = !l.isEmpty := by
  cases l <;> simp [PyData.eqv, PyData.eqvAll]
theorem if_wp {b : Bool} {P Q : Prop} (h1 : b = true → P) (h2 : b = false → Q) : if b = true then P else Q := by
  cases b with
  | true => exact h1 rfl
  | false => exact h2 rfl
theorem pick_tail {p1 p2 p3 p4 p5 p6 p7 p8 p9 p10 p11 p12 p13 p14 p15 p16 p17 p18 p19 p20 p21 p22 p23 p24 p25 p26 p27 p28 p29 p30 p31 p32 p33 p34 p35 p36 p37 p38 p39 p40 p41 p42 p43 p44 p45 p46 p47 p48 p49 p50 p51 p52 p53 p54 p55 p56 p57 p58 p59 p60 p61 p62 p63 p64 p65 p66 p67 p68 p69 p70 p71 p72 p73 p74 p75 p76 p77 p78 p79 p80 p81 p82 p83 p84 p85 p86 p87 p88 p89 p90 p91 p92 p93 p94 p95 p96 p97 p98 p99 p100 p101 p102 p103 p104 p105 p106 p107 p108 p109 p110 p111 p112 p113 p114 p115 p116 p117 p118 p119 p120 p121 p122 p123 p124 p125 : Pos} {j1 j2 j3 j4 j5 j6 j7 j8 j9 j10 j11 j12 j13 j14 j15 j16 j17 j18 j19 j20 j21 j22 j23 j24 j25 j26 j27 j28 j29 j30 j31 j32 j33 j34 : Nat} (h : PkX X) : ∃ t, PSs X [
  (.If (.Compare (.Subscript (.Name "state" p61) (.Constant (.int 1) j18 p62) p63) [.Gt] [(.Constant (.int 0) j19 p64)] p65) [(.Assign [(.Name "digit" p66)] (.BinOp (.Call (.Name "int" p67) [(.Subscript (.Name "state" p68) (.Constant (.int 1) j20 p69) p70)] [] p71) .Mod (.Name "many" p72) p73) p74), (.Assign [(.Subscript (.Name "state" p75) (.Constant (.int 1) j21 p76) p77)] (.BinOp (.Subscript (.Name "state" p78) (.Constant (.int 1) j22 p79) p80) .FloorDiv (.Name "many" p81) p82) p83), (.Return (some (.Name "digit" p84)) p85)] [] p86),
  (.Assign [(.Name "mixed" p87)] (.BinOp (.Call (.Name "int" p88) [(.BinOp (.BinOp (.BinOp (.Subscript (.Name "state" p89) (.Constant (.int 3) j23 p90) p91) .Add (.BinOp (.Constant (.int 7907) j24 p92) .Mult (.Subscript (.Name "state" p93) (.Constant (.int 2) j25 p94) p95) p96) p97) .Add (.Constant (.int 104723) j26 p98) p99) .Pow (.Constant (.int 5) j27 p100) p101)] [] p102) .Mod (.Constant (.int 2147483629) j28 p103) p104) p105),
  (.Return (some (.BinOp (.BinOp (.Call (.Name "int" p106) [(.BinOp (.BinOp (.BinOp (.BinOp (.Name "mixed" p107) .Mult (.Constant (.int 48271) j29 p108) p109) .Add (.BinOp (.Constant (.int 30011) j30 p110) .Mult (.Subscript (.Name "state" p111) (.Constant (.int 2) j31 p112) p113) p114) p115) .Add (.Constant (.int 31) j32 p116) p117) .Pow (.Constant (.int 3) j33 p118) p119)] [] p120) .Mod (.Constant (.int 1000000007) j34 p121) p122) .Mod (.Name "many" p123) p124)) p125)] t ∧ ∀ (D : Ends) (s i : Addr) (many : Int) (cells : List Int) (cur n mix : Int) (c : Option V) (H : Hp), s ≠ i → Hst s i H ⟨cells, cur, n, mix⟩ → 0 < many → many < 1073741824 → 0 ≤ n → n ≤ 2 ^ 40 → 0 ≤ mix → mix < 2147483647 →
    (∀ (H' : Hp), Fro s i H H' → (if 0 < cur then Hst s i H' ⟨cells, cur / many, n, mix⟩ else Hst s i H' ⟨cells, cur, n, mix⟩) →
      D.rt (.int (if 0 < cur then cur % many else ((((((mix + 7907 * n + 104723) ^ 5) % 2147483629) * 48271 + 30011 * n + 31) ^ 3) % 1000000007 % many))) H') → t D [some (.ref s), some (.int many), c, none, none] H := by
  have v0 : ∀ p, PE X (.Name "state" p) (tVar 0) := fun p => h.pv 0 rfl
  have v1 : ∀ p, PE X (.Name "many" p) (tVar 1) := fun p => h.pv 1 rfl
  have v2 : ∀ p, PE X (.Name "cell" p) (tVar 2) := fun p => h.pv 2 rfl
  have v3 : ∀ p, PE X (.Name "digit" p) (tVar 3) := fun p => h.pv 3 rfl
  have v4 : ∀ p, PE X (.Name "mixed" p) (tVar 4) := fun p => h.pv 4 rfl
  have pInt : ∀ {e : PySem.Expr} {te : TE} {p q : Pos}, noStar e = true → PE X e te → PE X (.Call (.Name "int" p) [e] [] q) (tCB (fun xs H Q => (∃ i, xs = [V.int i] ∧ Q (.int i) H) ∨ ∃ k, xs = [V.bl k] ∧ Q (.int (if k then 1 else 0)) H) (fun σ H Q => te σ H fun v H' => Q [v] H')) := fun {e te p q} hs he => pe_callTy call_int1 h.gi h.mi rfl (pa_one he hs) (by decide) (by decide) (star_cons hs) rfl
  refine ⟨_, pss_cons (ps_if (pt_cmpR op_gt (pe_st (k := 1) (v0 _)) pe_int (nomark _))
          (pss_cons (h.set 3 rfl (pe_op op_mod (pInt rfl (pe_st (k := 1) (v0 _))) (v1 _)) rfl) (pss_cons (ps_put (k := 1) (v0 _) (pe_op op_fdiv (pe_st (k := 1) (v0 _)) (v1 _)) rfl) (pss_one (ps_ret (v3 _))))) pss_nil)
        (pss_cons (h.set 4 rfl (pe_op op_mod (pInt rfl (pe_op op_pow (pe_op op_add (pe_op op_add (pe_st (k := 3) (v0 _)) (pe_op op_mul pe_int (pe_st (k := 2) (v0 _)))) pe_int) pe_int)) pe_int) rfl)
          (pss_one (ps_ret (pe_op op_mod (pe_op op_mod (pInt rfl (pe_op op_pow (pe_op op_add (pe_op op_add (pe_op op_mul (v4 _) pe_int) (pe_op op_mul pe_int (pe_st (k := 2) (v0 _)))) pe_int) pe_int)) pe_int) (v1 _))))), ?_⟩
  intro D s i many cells cur n mix c H ne st hm0 hm1 hn0 hn1 hx0 hx1 q
  refine ⟨s, _, _, rfl, st.1, rfl, cur, 0, rfl, rfl, _, rfl, if_wp (fun hc => ?_) fun hc => ?_⟩
  · have hc : 0 < cur := of_decide_eq_true hc
    simp only [hc, if_true] at q
    refine ⟨s, _, _, rfl, st.1, rfl, .inl ⟨cur, rfl, _, rfl, cur, many, rfl, rfl, hm0, ?_⟩⟩
    refine ⟨s, _, _, rfl, st.1, rfl, _, rfl, cur, many, rfl, rfl, ⟨hm0, hm1⟩, put_wp rfl st.1 (show 1 < 4 by decide) ?_⟩
    exact ⟨_, rfl, q _ (Fro.refl s i H).s (st.s ne)⟩
  · have hc : ¬ 0 < cur := of_decide_eq_false hc
    simp only [hc, if_false] at q
    have m0 : 0 ≤ (mix + 7907 * n + 104723) ^ 5 % 2147483629 := Int.emod_nonneg _ (by decide)
    have m1 : (mix + 7907 * n + 104723) ^ 5 % 2147483629 < 2147483629 := Int.emod_lt_of_pos _ (by decide)
    refine ⟨s, _, _, rfl, st.1, rfl, s, _, _, rfl, st.1, rfl, 7907, n, rfl, rfl, .inl ⟨by decide, by decide⟩, mix, _, rfl, rfl, _, 104723, rfl, rfl, _, 5, rfl, rfl, ⟨by decide, by decide, by omega⟩, .inl ⟨_, rfl, _, 2147483629, rfl, rfl, (show (0 : Int) < 2147483629 by decide), ?_⟩⟩
    refine ⟨_, rfl, _, 48271, rfl, rfl, .inr ⟨by decide, by decide⟩, s, _, _, rfl, st.1, rfl, 30011, n, rfl, rfl, .inl ⟨by decide, by decide⟩, _, _, rfl, rfl, _, 31, rfl, rfl, _, 3, rfl, rfl, ⟨by decide, by decide, ?_⟩, .inl ⟨_, rfl, _, 1000000007, rfl, rfl, (show (0 : Int) < 1000000007 by decide), _, rfl, _, many, rfl, rfl, hm0, ?_⟩⟩
    · show Int.natAbs ((mix + 7907 * n + 104723) ^ (5 : Int).toNat % 2147483629 * 48271 + 30011 * n + 31) < 2 ^ 64
      have e : (5 : Int).toNat = 5 := rfl
      rw [e]
      omega
    · exact q H (Fro.refl s i H) st
theorem pick_body {p1 p2 p3 p4 p5 p6 p7 p8 p9 p10 p11 p12 p13 p14 p15 p16 p17 p18 p19 p20 p21 p22 p23 p24 p25 p26 p27 p28 p29 p30 p31 p32 p33 p34 p35 p36 p37 p38 p39 p40 p41 p42 p43 p44 p45 p46 p47 p48 p49 p50 p51 p52 p53 p54 p55 p56 p57 p58 p59 p60 p61 p62 p63 p64 p65 p66 p67 p68 p69 p70 p71 p72 p73 p74 p75 p76 p77 p78 p79 p80 p81 p82 p83 p84 p85 p86 p87 p88 p89 p90 p91 p92 p93 p94 p95 p96 p97 p98 p99 p100 p101 p102 p103 p104 p105 p106 p107 p108 p109 p110 p111 p112 p113 p114 p115 p116 p117 p118 p119 p120 p121 p122 p123 p124 p125 : Pos} {j1 j2 j3 j4 j5 j6 j7 j8 j9 j10 j11 j12 j13 j14 j15 j16 j17 j18 j19 j20 j21 j22 j23 j24 j25 j26 j27 j28 j29 j30 j31 j32 j33 j34 : Nat} (h : PkX X) (hl : (p26.endLine == p28.line) = true) : ∃ t, PSs X [
  (.Assign [(.Subscript (.Name "state" p1) (.Constant (.int 2) j1 p2) p3)] (.BinOp (.Subscript (.Name "state" p4) (.Constant (.int 2) j2 p5) p6) .Add (.Constant (.int 1) j3 p7) p8) p9),
  (.While (.BoolOp .And [(.Compare (.Subscript (.Name "state" p10) (.Constant (.int 1) j4 p11) p12) [.Eq] [(.Constant (.int 0) j5 p13)] p14), (.Compare (.Subscript (.Name "state" p15) (.Constant (.int 0) j6 p16) p17) [.NotEq] [(.List [] p18)] p19)] p20) [(.Assign [(.Name "cell" p21)] (.Call (.Name "abs" p22) [(.Call (.Attribute (.Subscript (.Name "state" p23) (.Constant (.int 0) j7 p24) p25) "pop" p26) [(.Constant (.int 0) j8 p27)] [] p28)] [] p29) p30), (.Assign [(.Subscript (.Name "state" p31) (.Constant (.int 3) j9 p32) p33)] (.BinOp (.Call (.Name "int" p34) [(.BinOp (.BinOp (.BinOp (.Subscript (.Name "state" p35) (.Constant (.int 3) j10 p36) p37) .Mult (.Constant (.int 6151) j11 p38) p39) .Add (.Name "cell" p40) p41) .Add (.Constant (.int 5) j12 p42) p43)] [] p44) .Mod (.Constant (.int 2147483647) j13 p45) p46) p47), (.Assign [(.Subscript (.Name "state" p48) (.Constant (.int 1) j14 p49) p50)] (.IfExp (.Compare (.Name "cell" p51) [.GtE] [(.BinOp (.Constant (.int 10) j15 p52) .Pow (.Constant (.int 18) j16 p53) p54)] p55) (.Name "cell" p56) (.Constant (.int 0) j17 p57) p58) p59)] [] p60),
  (.If (.Compare (.Subscript (.Name "state" p61) (.Constant (.int 1) j18 p62) p63) [.Gt] [(.Constant (.int 0) j19 p64)] p65) [(.Assign [(.Name "digit" p66)] (.BinOp (.Call (.Name "int" p67) [(.Subscript (.Name "state" p68) (.Constant (.int 1) j20 p69) p70)] [] p71) .Mod (.Name "many" p72) p73) p74), (.Assign [(.Subscript (.Name "state" p75) (.Constant (.int 1) j21 p76) p77)] (.BinOp (.Subscript (.Name "state" p78) (.Constant (.int 1) j22 p79) p80) .FloorDiv (.Name "many" p81) p82) p83), (.Return (some (.Name "digit" p84)) p85)] [] p86),
  (.Assign [(.Name "mixed" p87)] (.BinOp (.Call (.Name "int" p88) [(.BinOp (.BinOp (.BinOp (.Subscript (.Name "state" p89) (.Constant (.int 3) j23 p90) p91) .Add (.BinOp (.Constant (.int 7907) j24 p92) .Mult (.Subscript (.Name "state" p93) (.Constant (.int 2) j25 p94) p95) p96) p97) .Add (.Constant (.int 104723) j26 p98) p99) .Pow (.Constant (.int 5) j27 p100) p101)] [] p102) .Mod (.Constant (.int 2147483629) j28 p103) p104) p105),
  (.Return (some (.BinOp (.BinOp (.Call (.Name "int" p106) [(.BinOp (.BinOp (.BinOp (.BinOp (.Name "mixed" p107) .Mult (.Constant (.int 48271) j29 p108) p109) .Add (.BinOp (.Constant (.int 30011) j30 p110) .Mult (.Subscript (.Name "state" p111) (.Constant (.int 2) j31 p112) p113) p114) p115) .Add (.Constant (.int 31) j32 p116) p117) .Pow (.Constant (.int 3) j33 p118) p119)] [] p120) .Mod (.Constant (.int 1000000007) j34 p121) p122) .Mod (.Name "many" p123) p124)) p125)] t ∧ ∀ (D : Ends) (s i : Addr) (many : Int) (ds ds' : DS) (d : IR.D) (H : Hp), s ≠ i → Hst s i H ds → pickS many ds = .ok d ds' → (∀ (H' : Hp) (n : Int), d = .int n → Hst s i H' ds' → Fro s i H H' → D.rt (.int n) H') →
    t D [some (.ref s), some (.int many), none, none, none] H := by
  have v0 : ∀ p, PE X (.Name "state" p) (tVar 0) := fun p => h.pv 0 rfl
  have v1 : ∀ p, PE X (.Name "many" p) (tVar 1) := fun p => h.pv 1 rfl
  have v2 : ∀ p, PE X (.Name "cell" p) (tVar 2) := fun p => h.pv 2 rfl
  have v3 : ∀ p, PE X (.Name "digit" p) (tVar 3) := fun p => h.pv 3 rfl
  have v4 : ∀ p, PE X (.Name "mixed" p) (tVar 4) := fun p => h.pv 4 rfl
  have pInt : ∀ {e : PySem.Expr} {te : TE} {p q : Pos}, noStar e = true → PE X e te → PE X (.Call (.Name "int" p) [e] [] q) (tCB (fun xs H Q => (∃ i, xs = [V.int i] ∧ Q (.int i) H) ∨ ∃ k, xs = [V.bl k] ∧ Q (.int (if k then 1 else 0)) H) (fun σ H Q => te σ H fun v H' => Q [v] H')) := fun {e te p q} hs he => pe_callTy call_int1 h.gi h.mi rfl (pa_one he hs) (by decide) (by decide) (star_cons hs) rfl
  have hu := h.un
  obtain ⟨t2, ht2, w2⟩ := pick_tail (X := X) (p61 := p61) (p62 := p62) (p63 := p63) (p64 := p64) (p65 := p65) (p66 := p66) (p67 := p67) (p68 := p68) (p69 := p69) (p70 := p70) (p71 := p71) (p72 := p72) (p73 := p73) (p74 := p74) (p75 := p75) (p76 := p76) (p77 := p77) (p78 := p78) (p79 := p79) (p80 := p80) (p81 := p81) (p82 := p82) (p83 := p83) (p84 := p84) (p85 := p85) (p86 := p86) (p87 := p87) (p88 := p88) (p89 := p89) (p90 := p90) (p91 := p91) (p92 := p92) (p93 := p93) (p94 := p94) (p95 := p95) (p96 := p96) (p97 := p97) (p98 := p98) (p99 := p99) (p100 := p100) (p101 := p101) (p102 := p102) (p103 := p103) (p104 := p104) (p105 := p105) (p106 := p106) (p107 := p107) (p108 := p108) (p109 := p109) (p110 := p110) (p111 := p111) (p112 := p112) (p113 := p113) (p114 := p114) (p115 := p115) (p116 := p116) (p117 := p117) (p118 := p118) (p119 := p119) (p120 := p120) (p121 := p121) (p122 := p122) (p123 := p123) (p124 := p124) (p125 := p125) (j18 := j18) (j19 := j19) (j20 := j20) (j21 := j21) (j22 := j22) (j23 := j23) (j24 := j24) (j25 := j25) (j26 := j26) (j27 := j27) (j28 := j28) (j29 := j29) (j30 := j30) (j31 := j31) (j32 := j32) (j33 := j33) (j34 := j34) (p1 := p1) (p2 := p1) (p3 := p1) (p4 := p1) (p5 := p1) (p6 := p1) (p7 := p1) (p8 := p1) (p9 := p1) (p10 := p1) (p11 := p1) (p12 := p1) (p13 := p1) (p14 := p1) (p15 := p1) (p16 := p1) (p17 := p1) (p18 := p1) (p19 := p1) (p20 := p1) (p21 := p1) (p22 := p1) (p23 := p1) (p24 := p1) (p25 := p1) (p26 := p1) (p27 := p1) (p28 := p1) (p29 := p1) (p30 := p1) (p31 := p1) (p32 := p1) (p33 := p1) (p34 := p1) (p35 := p1) (p36 := p1) (p37 := p1) (p38 := p1) (p39 := p1) (p40 := p1) (p41 := p1) (p42 := p1) (p43 := p1) (p44 := p1) (p45 := p1) (p46 := p1) (p47 := p1) (p48 := p1) (p49 := p1) (p50 := p1) (p51 := p1) (p52 := p1) (p53 := p1) (p54 := p1) (p55 := p1) (p56 := p1) (p57 := p1) (p58 := p1) (p59 := p1) (p60 := p1) (j1 := j1) (j2 := j1) (j3 := j1) (j4 := j1) (j5 := j1) (j6 := j1) (j7 := j1) (j8 := j1) (j9 := j1) (j10 := j1) (j11 := j1) (j12 := j1) (j13 := j1) (j14 := j1) (j15 := j1) (j16 := j1) (j17 := j1) h
  refine ⟨_, pss_cons (ps_put (k := 2) (v0 _) (pe_op op_add (pe_st (k := 2) (v0 _)) pe_int) rfl)
    (pss_cons (ps_while h.po (pw_and (pt_cmpR op_eq (pe_st (k := 1) (v0 _)) pe_int (nomark _)) (pw_and1 (pt_cmpR (op_neD (by omega)) (pe_st (k := 0) (v0 _)) (pe_lst pa_nil) (nomark _)))).pt
      (pss_cons (h.set 2 rfl (pe_callB call_abs h.ga h.ma rfl (pa_one (pe_popAt rfl rfl hl (pe_st (k := 0) (v0 _)) pe_int) rfl) (by decide) (by decide) rfl rfl) rfl)
        (pss_cons (ps_put (k := 3) (v0 _) (pe_op op_mod (pInt rfl (pe_op op_add (pe_op op_add (pe_op op_mul (pe_st (k := 3) (v0 _)) pe_int) (v2 _)) pe_int)) pe_int) rfl)
          (pss_one (ps_put (k := 1) (v0 _) (pe_ifExp (pt_cmpR op_ge (v2 _) (pe_op op_pow pe_int pe_int) (nomark _)) (v2 _) pe_int) rfl)))))
      ht2), ?_⟩
  rintro D s i many ⟨cells, cur, n, mix⟩ ds' d H ne st hp q
  unfold pickS at hp
  split at hp
  rotate_left
  · cases hp
  rename_i hc
  obtain ⟨hm0, hm1, hcur, hn0, hn1, hx0, hx1⟩ := hc
  have hn0 : 0 ≤ n := hn0
  have hn1 : n < 2 ^ 40 := hn1
  have hx0 : 0 ≤ mix := hx0
  have hx1 : mix < 2147483647 := hx1
  have hcur : 0 ≤ cur := hcur
  have hsn : H s ≠ none := by rw [st.1]; simp
  have hin : H i ≠ none := by rw [st.2]; simp
  -- the first row
  refine ⟨s, _, _, rfl, st.1, rfl, n, 1, rfl, rfl, put_wp rfl st.1 (show 2 < 4 by decide) ?_⟩
  have st1 : Hst s i (upd H s (.lst [.ref i, .int cur, .int (n + 1), .int mix])) ⟨cells, cur, n + 1, mix⟩ := st.s ne
  have f1 := (Fro.refl s i H).s (o := .lst [.ref i, .int cur, .int (n + 1), .int mix])
  -- the loop
  refine ⟨fun m σ' H' => ∃ cells' cur' mix' c, σ' = [some (.ref s), some (.int many), c, none, none] ∧ Hst s i H' ⟨cells', cur', n + 1, mix'⟩ ∧ Fro s i H H' ∧ m = cells'.length ∧ pickL cells' cur' mix' = pickL cells cur mix ∧ 0 ≤ cur' ∧ 0 ≤ mix' ∧ mix' < 2147483647, ⟨_, cells, cur, mix, none, rfl, st1, f1, rfl, rfl, hcur, hx0, hx1⟩, ?_⟩
  rintro m σ' H' ⟨cells', cur', mix', c, rfl, st', f', rfl, hL, hc', hx0', hx1'⟩
  -- behind the loop
  have after : ∀ (H2 : Hp) (c : Option V), Hst s i H2 ⟨cells', cur', n + 1, mix'⟩ → Fro s i H H2 → pickL cells' cur' mix' = (cells', cur', mix') → t2 D [some (.ref s), some (.int many), c, none, none] H2 := by
    intro H2 c s2 f2 e
    refine w2 D s i many cells' cur' (n + 1) mix' c H2 ne s2 hm0 hm1 (by omega) (by omega) hx0' hx1' fun H3 f3 s3 => ?_
    rw [← hL, e] at hp
    have hp : (if 0 < cur' then Out.ok (IR.D.int (cur' % many)) ⟨cells', cur' / many, n + 1, mix'⟩ else Out.ok (IR.D.int (((((((mix' + 7907 * (n + 1) + 104723) ^ 5) % 2147483629) * 48271 + 30011 * (n + 1) + 31) ^ 3) % 1000000007 % many))) ⟨cells', cur', n + 1, mix'⟩) = Out.ok d ds' := hp
    have f4 : Fro s i H H3 := fun a h1 h2 h3 => by
      have e1 := f2 a h1 h2 h3
      rw [f3 a (by rw [e1]; exact h1) h2 h3, e1]
    by_cases hcc : 0 < cur'
    · rw [if_pos hcc] at hp s3 ⊢
      cases hp
      exact q H3 _ rfl s3 f4
    · rw [if_neg hcc] at hp s3 ⊢
      cases hp
      exact q H3 _ rfl s3 f4
  refine ⟨s, _, _, rfl, st'.1, rfl, rfl, _, rfl, if_wp (fun h0 => ?_) fun h0 => ?_⟩
  · have h0 : V.int cur' = V.int 0 := of_decide_eq_true h0
    cases h0
    refine ⟨s, _, _, rfl, st'.1, rfl, by decide, fun p hpn => ?_⟩
    have sp : Hst s i (upd H' p (.lst [])) ⟨cells', 0, n + 1, mix'⟩ := ⟨by rw [upd_ne (ne_of_none st'.1 hpn)]; exact st'.1, by rw [upd_ne (ne_of_none st'.2 hpn)]; exact st'.2⟩
    have fp := f'.new (o := .lst []) hpn hsn hin
    refine ⟨_, _, .lst (SqL.of sp.2) (ints_dp cells'), .lst (SqL.of upd_same) .nil, ints_shaped cells', rfl, _, rfl, ?_⟩
    cases cells' with
    | nil => exact after _ c sp fp rfl
    | cons x r =>
      refine ⟨fun σ2 H2 => ∃ c, σ2 = [some (.ref s), some (.int many), c, none, none] ∧ Hst s i H2 ⟨r, (if 10 ^ 18 ≤ (if x < 0 then -x else x) then (if x < 0 then -x else x) else 0), n + 1, (mix' * 6151 + (if x < 0 then -x else x) + 5) % 2147483647⟩ ∧ Fro s i H H2, fun σ2 H2 ⟨c2, e1, e2, e3⟩ => ⟨r.length, by simp, r, _, _, c2, e1, e2, e3, rfl, ?_, ?_, Int.emod_nonneg _ (by decide), Int.emod_lt_of_pos _ (by decide)⟩, ?_⟩
      · rw [← hL]
        simp [pickL]
      · split <;> (first | omega | (split <;> omega))
      · have e0 : (x :: r).map V.int = V.int x :: r.map V.int := rfl
        generalize hcell : (if x < 0 then -x else x) = cell
        have s2 : Hst s i (upd (upd H' p (.lst [])) i (.lst (r.map V.int))) ⟨r, 0, n + 1, mix'⟩ := sp.i ne
        have f2 := fp.i (o := .lst (r.map V.int))
        refine ⟨s, _, _, rfl, sp.1, rfl, .inl ⟨rfl, _, SqL.of sp.2⟩, i, _, 0, 0, .int x, rfl, rfl, sp.2, by decide, by decide, ?_, rfl, x, rfl, ?_⟩
        · unfold seqIndex?
          simp
        · rw [hcell]
          have s3 := s2.s ne (cur' := 0) (n' := n + 1) (mix' := (mix' * 6151 + cell + 5) % 2147483647)
          have f3 := f2.s (o := .lst [.ref i, .int 0, .int (n + 1), .int ((mix' * 6151 + cell + 5) % 2147483647)])
          refine ⟨s, _, _, rfl, s2.1, rfl, mix', 6151, rfl, rfl, .inr ⟨by decide, by decide⟩, _, rfl, _, cell, rfl, rfl, _, 5, rfl, rfl, .inl ⟨_, rfl, _, 2147483647, rfl, rfl, (show (0 : Int) < 2147483647 by decide), put_wp rfl s2.1 (show 3 < 4 by decide) ?_⟩⟩
          refine ⟨_, rfl, 10, 18, rfl, rfl, ⟨by decide, by decide, by decide⟩, cell, _, rfl, rfl, _, rfl, if_wp (fun hb => ?_) fun hb => ?_⟩
          · have hb : 10 ^ 18 ≤ cell := of_decide_eq_true hb
            rw [if_pos hb]
            exact ⟨_, rfl, put_wp rfl s3.1 (show 1 < 4 by decide) ⟨some (.int cell), rfl, s3.s ne, f3.s⟩⟩
          · have hb : ¬ 10 ^ 18 ≤ cell := of_decide_eq_false hb
            rw [if_neg hb]
            exact put_wp rfl s3.1 (show 1 < 4 by decide) ⟨some (.int cell), rfl, s3.s ne, f3.s⟩
  · have hz : ¬ V.int cur' = V.int 0 := of_decide_eq_false h0
    have hy : ¬ cur' = 0 := fun z => hz (by rw [z])
    refine after H' c st' f' ?_
    cases cells' with
    | nil => rfl
    | cons x r =>
      show (if cur' = 0 then _ else (x :: r, cur', mix')) = _
      rw [if_neg hy]
end
end IR
end
section
set_option Elab.async false
set_option linter.all false
set_option maxRecDepth 100000
set_option maxHeartbeats 4100000
namespace IR
open L2 PySem PySem.Spec PyProof.Rows
/-! ## an __init__ with three trials and three fields -/
/-- what it makes; e1 e2 e3: the trials, g1 g2 g3: the fields' values -/
def boxM (Γ : Gm) (cf : Nat → List D → DS → Out D) (C : Nat) (x1 x2 x3 : Str) (e1 e2 e3 g1 g2 g3 : E) : List D → DS → Out D
  | [a, b, r], s =>
    (ev Γ cf e1 [.no, .sh a, .sh b, .sh r, .no, .no] s).bind fun d s => if isNonD d then
    (ev Γ cf e2 [.no, .sh a, .sh b, .sh r, .sh .non, .no] s).bind fun d s => if isNonD d then
    (ev Γ cf e3 [.no, .sh a, .sh b, .sh r, .sh .non, .no] s).bind fun d s => if isNonD d then
    (ev Γ cf g1 [.no, .sh a, .sh b, .sh r, .sh .non, .no] s).bind fun d1 s => (ev Γ cf g2 [.no, .sh a, .sh b, .sh r, .sh .non, .no] s).bind fun d2 s =>
      (ev Γ cf g3 [.no, .sh a, .sh b, .sh r, .sh .non, .no] s).bind fun d3 s => .ok (.obj C [(x1, d1), (x2, d2), (x3, d3)]) s
    else .no else .no else .no
  | _, _ => .no
section
variable {Γ : Gm} {c : Cg} {cf : Nat → List D → DS → Out D} {ar : Nat → Nat} {k : Nat} {N : List Str} {sc : Scope} {E0 : XK} {X : Cx} {ρ : Env}
/-- a trial: x = e; if x is not None: .. -/
theorem trial {e : E} {n n' : Str} {i j : Nat} {y : PySem.Expr} {p1 p2 p3 p4 p5 p6 : Pos} {rb : List Stmt} (hX : StCx Γ c cf ar k N sc E0 X) (hy : chk Γ N sc e y = true) (hm : mdOf Γ e ≠ .rd) (hc : notComp y = true) (hn : (decide (N[i]? = some n) && locB sc n) = true) (hn' : (decide (N[i]? = some n') && visB sc n' && okN n') = true)
    (rest : List Stmt) (u : TS) (hu : PSs X rest u) : PSs X (.Assign [.Name n p1] y p2 :: .If (.Compare (.Name n' p3) [.IsNot] [.Constant .none j p4] p5) rb [] p6 :: rest)
      (fun D σ H => ∃ ρ, tE c E0 .rep ρ (ev Γ cf e ρ) σ H fun v H1 => v = .non ∧ ((i < σ.length) ∧ u D (σ.set i (some .non)) H1)) := by
  simp only [Bool.and_eq_true] at hn
  have nd : X.N.Nodup := by rw [hX.hN]; exact hX.nd
  refine pss_imp (pss_cons (ps_set nd (by rw [hX.hN]; exact of_decide_eq_true hn.1) (loc_of hX.toCxOk hn.2) (pe_ex fun ρ => (s_E (ρ := ρ) e hX.toCxOk hy).rep hm) (sw_not hc) (.inl (hX.fs n)))
    (pss_cons (ps_if (pt_cmp (pc_notN (var_of hX.toCxOk hn')) rfl) pss_never pss_nil) hu)) fun D σ H ⟨ρ, q⟩ => ?_
  refine ⟨ρ, tE_mono (fun v H1 w => ?_) q⟩
  obtain ⟨rfl, hl, w⟩ := w
  refine ⟨.non, by rw [List.getElem?_set_self hl], _, rfl, ?_⟩
  exact w
theorem sw_attr {y : PySem.Expr} {o : PySem.Expr} {f : Str} {p : Pos} {l : Nat} {env : PySem.Env} : swapsWith y (some (.Attribute o f p)) l env = pure false := by
  cases y <;> rfl
/-- something of its own, what is wanted told from the entry -/
theorem base_seq {m : Md} {G H0 Gi Hi : Hp} {σ : L2.St} {ds : DS} {o : DS → Out D} {f : D → DS → Out D} {Q R : VK} (sp : Stp c.toCf G H0 Gi Hi) (e : EI c.toCf Gi σ ρ Hi ds) (p : Post c E0 .rep G H0 ((o ds).bind f) Q)
    (kk : ∀ G1 H1 v d ds1, EI c.toCf G1 σ ρ H1 ds1 → Stp c.toCf Gi Hi G1 H1 → Stp c.toCf G H0 G1 H1 → RO c.toCf m Hi G1 H1 v d → Post c E0 .rep G H0 (f d ds1) Q → R v H1) : PostG c E0 (RO c.toCf m) Gi Hi (o ds) R := by
  cases q : o ds with
  | no => rw [q] at p; exact p
  | er n d dz =>
    rw [q] at p
    exact fun G' H' dx v n s t hx r => p G' H' dx v n (sp.trans e.st s) t hx r
  | ok d dz =>
    rw [q] at p
    exact fun G1 H1 v n s t r => kk G1 H1 v d dz (e.step n s t) s (sp.trans e.st s) r p
/-- the half made thing at x -/
structure Half (c : Cg) (C : Nat) (x dx : Addr) (G H : Hp) (vs : List (Str × V)) (dn : List (Str × D)) : Prop where
  at_ : H x = some (.ins (c.cl C) dx vs)
  own : H dx = some (.own x)
  gx : G x = none
  gd : G dx = none
  rf : RepF c.toCf G vs dn
theorem Half.step {C : Nat} {x dx : Addr} {G H G1 H1 : Hp} {vs : List (Str × V)} {dn : List (Str × D)} (h : Half c C x dx G H vs dn) (tx : ¬ inT c.toCf x) (td : ¬ inT c.toCf dx) (s : Stp c.toCf G H G1 H1) : Half c C x dx G1 H1 vs dn := by
  have nx : H x ≠ none := by rw [h.at_]; simp
  have nd : H dx ≠ none := by rw [h.own]; simp
  exact ⟨(s.kp x nx tx).trans h.at_, (s.kp dx nd td).trans h.own, s.nw x nx h.gx, s.nw dx nd h.gd, h.rf.mono s.ex⟩
theorem repF_app {c : Cf} {G : Hp} {f : Str} {v : V} {d : D} (r : Rep c G v d) : ∀ {vs : List (Str × V)} {ds : List (Str × D)}, RepF c G vs ds → (∀ q ∈ ds, q.1 ≠ f) → RepF c G (putF f v vs) (ds ++ [(f, d)])
  | _, _, .nil, _ => .cons r .nil
  | _, _, @RepF.cons _ _ g w vs d' ds h q, hn => by
    have ne : ¬ g = f := hn (g, d') List.mem_cons_self
    unfold putF
    rw [if_neg ne]
    exact .cons h (repF_app r q fun z hz => hn z (List.mem_cons_of_mem _ hz))
theorem repF_len {c : Cf} {G : Hp} : ∀ {vs : List (Str × V)} {ds : List (Str × D)}, RepF c G vs ds → vs.length = ds.length
  | _, _, .nil => rfl
  | _, _, .cons _ r => by simp [repF_len r]
/-- a field is stored -/
theorem store_wp {C : Nat} {x dx : Addr} {G H0 Gi Hi : Hp} {σ : L2.St} {ds : DS} {f : Str} {g : E} {vs : List (Str × V)} {dn : List (Str × D)} {ff : D → DS → Out D} {Q : VK} {Dn : Ends} (hcl : ClsOk Γ c.toCf X.K C) (hf : (Γ.cat C).contains f = true) (hs : σ[0]? = some (some (.ref x)))
    (tx : ¬ inT c.toCf x) (td : ¬ inT c.toCf dx) (hx0 : H0 x = none) (ne : dx ≠ x) (sp : Stp c.toCf G H0 Gi Hi) (e : EI c.toCf Gi σ ρ Hi ds) (hh : Half c C x dx Gi Hi vs dn) (hno : ∀ q ∈ dn, q.1 ≠ f) (hlen : dn.length < 1000) (hm : mdOf Γ g ≠ .rd)
    (p : Post c E0 .rep G H0 ((ev Γ cf g ρ ds).bind ff) Q)
    (kk : ∀ G1 H1 vs' d ds1, EI c.toCf G1 σ ρ H1 ds1 → Stp c.toCf G H0 G1 H1 → Half c C x dx G1 H1 vs' (dn ++ [(f, d)]) → Post c E0 .rep G H0 (ff d ds1) Q → Dn.nx σ H1) :
    sFld X.K (tVar 0) (fun σ H Q => ∃ ρ, tE c E0 .rep ρ (ev Γ cf g ρ) σ H Q) f Dn σ Hi := by
  refine ⟨ρ, Gi, ds, e, base_seq sp e p fun G1 H1 v d ds1 e1 s1 sp1 r1 p1 => ?_⟩
  have h1 := hh.step tx td s1
  have r1 : Rep c.toCf G1 v d := r1
  refine ⟨.ref x, hs, x, _, dx, vs, rfl, h1.at_, hcl.cl, hcl.att f (by simpa using hf), by rw [repF_len h1.rf]; exact hlen, ?_⟩
  have nex : ∀ {a : Addr} {o : HO}, G1 a = some o → a ≠ x := fun {a o} ha z => by rw [z, h1.gx] at ha; cases ha
  refine kk G1 _ (putF f v vs) d ds1 ⟨e1.ln, fun a o ha => ?_, e1.tn, fun s i he => ?_, fun j z hz => ?_⟩ ⟨sp1.ex, fun a ha ht => ?_, sp1.nw⟩ ⟨upd_same, by rw [upd_ne ne]; exact h1.own, h1.gx, h1.gd, repF_app r1 h1.rf hno⟩ p1
  · rw [upd_ne (nex ha)]; exact e1.on a o ha
  · obtain ⟨k1, k2, k3⟩ := e1.st s i he
    have ns : s ≠ x := fun z => tx ⟨s, i, he, .inl z.symm⟩
    have ni : i ≠ x := fun z => tx ⟨s, i, he, .inr z.symm⟩
    exact ⟨k1, by rw [upd_ne ns]; exact k2, by rw [upd_ne ni]; exact k3⟩
  · have q := e1.sl j z hz
    cases z with
    | no => trivial
    | sh d => exact q
    | own d =>
      obtain ⟨q0, k1, k2, k3, k4⟩ := q
      have nq : q0 ≠ x := fun z => by
        rw [z] at k4
        cases k4 with
        | lst h _ => rw [h1.at_] at h; cases h
        | dk h _ => rw [h1.at_] at h; cases h
        | dt h _ => rw [h1.at_] at h; cases h
      exact ⟨q0, k1, k2, k3, k4.mono (Sub.refl _) (upd_ne nq)⟩
  · have nx : a ≠ x := fun z => ha (by rw [z]; exact hx0)
    rw [upd_ne nx]; exact sp1.kp a ha ht
end
section
variable {Γ : Gm} {c : Cg} {tb : Nat → Fn} {ar : Nat → Nat} {P : Program} {w : World} {K : PySem.W.Frag} {mg : Str → Option Value} {base : Heap}
theorem st_cx {cf : Nat → List D → DS → Out D} {k : Nat} {N ps : List Str} {scope : Scope} {qual : Str} {a : Addr} {cdv : Value} {A : Around} {outer : List PySem.Env} {s : Shared} {H : Hp} {E : XK} (S0 : FnScope N ps scope) (hr : Room (k + 1) (A.deeper (envOfC qual scope s.heap.objs.size a cdv))) (g : GX Γ c cf ar k P w K mg base) :
    StCx Γ c cf ar k N scope E (cxOf (L2.CX P w) P w K mg base N qual scope a cdv A outer s H E) :=
  have tk : Takes (cxOf (L2.CX P w) P w K mg base N qual scope a cdv A outer s H E) (fun cls d _ H => E cls d H) := takes_of rfl rfl rfl rfl
  { hN := rfl, hsc := rfl, nd := S0.nd, calm := rfl, room := hr, g := g, pass := passes_call tk fun _ _ _ _ h => h, fs := fun _ => rfl, po := passes_of rfl, kd := S0.kind }
theorem box_fn {x qual : Str} {params : Arguments} {body : List Stmt} {scope : Scope} {dvs : List V} {kws : List (Str × V)} {a : Addr} {fd : FuncData} {N ps : List Str} {f C k : Nat} {f1 f2 f3 : Str} {e1 e2 e3 g1 g2 g3 : E} {y1 y2 y3 z1 z2 z3 : PySem.Expr} {r1 r2 r3 : List Stmt}
    {n1 n1' n2 n2' n3 n3' m1 m2 m3 : Str} {j1 j2 j3 : Nat} {p1 p2 p3 p4 p5 p6 q1 q2 q3 q4 q5 q6 t1 t2 t3 t4 t5 t6 u1 u2 u3 u4 u5 u6 u7 u8 u9 : Pos}
    (F : FunD K x qual params body scope dvs kws a fd) (S0 : FnScope N ps scope) (hps : ps.length = 4) (hNl : N.length = 6)
    (hb : body = [.Assign [.Name n1 p1] y1 p2, .If (.Compare (.Name n1' p3) [.IsNot] [.Constant .none j1 p4] p5) r1 [] p6, .Assign [.Name n2 q1] y2 q2, .If (.Compare (.Name n2' q3) [.IsNot] [.Constant .none j2 q4] q5) r2 [] q6,
      .Assign [.Name n3 t1] y3 t2, .If (.Compare (.Name n3' t3) [.IsNot] [.Constant .none j3 t4] t5) r3 [] t6, .Assign [.Attribute (.Name m1 u1) f1 u2] z1 u3, .Assign [.Attribute (.Name m2 u4) f2 u5] z2 u6, .Assign [.Attribute (.Name m3 u7) f3 u8] z3 u9])
    (hy1 : chk Γ N scope e1 y1 = true) (hy2 : chk Γ N scope e2 y2 = true) (hy3 : chk Γ N scope e3 y3 = true) (hz1 : chk Γ N scope g1 z1 = true) (hz2 : chk Γ N scope g2 z2 = true) (hz3 : chk Γ N scope g3 z3 = true)
    (hc : (notComp y1 && notComp y2 && notComp y3) = true) (hm : (decide (mdOf Γ e1 ≠ .rd) && decide (mdOf Γ e2 ≠ .rd) && decide (mdOf Γ e3 ≠ .rd) && decide (mdOf Γ g1 ≠ .rd) && decide (mdOf Γ g2 ≠ .rd) && decide (mdOf Γ g3 ≠ .rd)) = true)
    (hn1 : (decide (N[4]? = some n1) && locB scope n1) = true) (hn2 : (decide (N[4]? = some n2) && locB scope n2) = true) (hn3 : (decide (N[4]? = some n3) && locB scope n3) = true)
    (hn1' : (decide (N[4]? = some n1') && visB scope n1' && okN n1') = true) (hn2' : (decide (N[4]? = some n2') && visB scope n2' && okN n2') = true) (hn3' : (decide (N[4]? = some n3') && visB scope n3' && okN n3') = true)
    (hm1 : (decide (N[0]? = some m1) && visB scope m1 && okN m1) = true) (hm2 : (decide (N[0]? = some m2) && visB scope m2 && okN m2) = true) (hm3 : (decide (N[0]? = some m3) && visB scope m3 && okN m3) = true)
    (hf : ((Γ.cat C).contains f1 && (Γ.cat C).contains f2 && (Γ.cat C).contains f3) = true) (hd : (f1 ≠ f2 ∧ f1 ≠ f3 ∧ f2 ≠ f3)) (hcl : ClsOk Γ c.toCf K C) (g : GX Γ c (callM Γ tb k) ar k P w K mg base) :
    FnOk P w K mg base (L2.CX P w) (k + 1 + 1) a fd ps (spN c (fun _ as ds => if as.length = 3 then boxM Γ (callM Γ tb k) C f1 f2 f3 e1 e2 e3 g1 g2 g3 as ds else .no) f C 4) := by
  simp only [Bool.and_eq_true] at hc hm hf
  obtain ⟨⟨hc1, hc2⟩, hc3⟩ := hc
  obtain ⟨⟨⟨⟨⟨hm1', hm2'⟩, hm3'⟩, hm4⟩, hm5⟩, hm6⟩ := hm
  obtain ⟨⟨hf1, hf2⟩, hf3⟩ := hf
  refine F.ok S0 (fun vs H Q E h => ?_) fun cdv A outer s H vs Q E hr h => ?_
  · obtain ⟨_, _, _, _, _, _, _, _, _, _, _, _, _, _, _, _, hl, _⟩ := h
    rw [hl, hps]
  · obtain ⟨G, H0, ox, dx, ws, as, ds, rfl, hx, hdx, ne, rfl, n, tn, st, rs, hl, p⟩ := h
    have p : Post c E .rep G H0 (if as.length = 3 then boxM Γ (callM Γ tb k) C f1 f2 f3 e1 e2 e3 g1 g2 g3 as ds else .no) (fun v H' => v = .ref ox → Q .non H') := p
    by_cases hal : as.length = 3
    rotate_left
    · rw [if_neg hal] at p; exact p.elim
    rw [if_pos hal] at p
    match as, rs, hal with
    | [da, db, dr], .cons (v := va) ra (.cons (v := vb) rb (.cons (v := vr) rr .nil)), _ =>
    have hX := st_cx (Γ := Γ) (c := c) (qual := qual) (a := a) (cdv := cdv) (outer := outer) (s := s) (H := upd (upd H0 dx (.own ox)) ox (.ins (c.cl C) dx [])) (E := E) S0 hr g
    subst hb
    refine ⟨_, trial hX hy1 (of_decide_eq_true hm1') hc1 hn1 hn1' _ _ (trial hX hy2 (of_decide_eq_true hm2') hc2 hn2 hn2' _ _ (trial hX hy3 (of_decide_eq_true hm3') hc3 hn3 hn3' _ _
      (pss_cons (ps_fld (var_of hX.toCxOk hm1) (pe_ex fun ρ => (s_E (ρ := ρ) g1 hX.toCxOk hz1).rep (of_decide_eq_true hm4)) sw_attr)
        (pss_cons (ps_fld (var_of hX.toCxOk hm2) (pe_ex fun ρ => (s_E (ρ := ρ) g2 hX.toCxOk hz2).rep (of_decide_eq_true hm5)) sw_attr)
          (pss_one (ps_fld (var_of hX.toCxOk hm3) (pe_ex fun ρ => (s_E (ρ := ρ) g3 hX.toCxOk hz3).rep (of_decide_eq_true hm6)) sw_attr)))))), ?_⟩
    have hst : L2.start N [V.ref ox, va, vb, vr] = [some (.ref ox), some va, some vb, some vr, none, none] := by
      unfold L2.start
      simp [hNl]
    rw [hst]
    have tx : ¬ inT c.toCf ox := fun t => st.there t hx
    have td : ¬ inT c.toCf dx := fun t => st.there t hdx
    have hx' : upd H0 dx (.own ox) ox = none := by rw [upd_ne (Ne.symm ne)]; exact hx
    have nH := (n.alloc (o := .own ox) hdx).alloc (o := .ins (c.cl C) dx []) hx'
    have sH := (st.alloc (o := .own ox) hdx).alloc (o := .ins (c.cl C) dx []) hx'
    have sp0 : Stp c.toCf G H0 G (upd (upd H0 dx (.own ox)) ox (.ins (c.cl C) dx [])) := (Stp.alloc hdx).trans (st.alloc hdx) (Stp.alloc hx')
    have half0 : Half c C ox dx G (upd (upd H0 dx (.own ox)) ox (.ins (c.cl C) dx [])) [] [] := ⟨upd_same, by rw [upd_ne ne]; exact upd_same, n.free hx, n.free hdx, .nil⟩
    have ei0 : EI c.toCf G [some (.ref ox), some va, some vb, some vr, none, none] [.no, .sh da, .sh db, .sh dr, .no, .no] (upd (upd H0 dx (.own ox)) ox (.ins (c.cl C) dx [])) ds := by
      refine ⟨rfl, nH, tn, sH, fun j z hz => ?_⟩
      match j, hz with
      | 0, hz => cases hz; trivial
      | 1, hz => cases hz; exact ⟨va, rfl, ra⟩
      | 2, hz => cases hz; exact ⟨vb, rfl, rb⟩
      | 3, hz => cases hz; exact ⟨vr, rfl, rr⟩
      | 4, hz => cases hz; trivial
      | 5, hz => cases hz; trivial
      | j + 6, hz => simp at hz
    have non_of : ∀ {d : D} {v : V} {G : Hp}, isNonD d = true → Rep c.toCf G v d → v = .non := fun {d v G} h r => by
      cases d <;> first | (cases h; done) | skip
      cases r; rfl
    refine ⟨_, G, ds, ei0, base_seq (m := .rep) sp0 ei0 p fun G1 H1 v1 d1 ds1 ei1 s1 sp1 rv1 p1 => ?_⟩
    cases hd1 : isNonD d1 with
    | false => rw [hd1] at p1; exact p1.elim
    | true =>
    rw [hd1] at p1
    have half1 := half0.step tx td s1
    refine ⟨non_of hd1 rv1, (show 4 < 6 by decide), ?_⟩
    have ei1' : EI c.toCf G1 [some (.ref ox), some va, some vb, some vr, some .non, none] [.no, .sh da, .sh db, .sh dr, .sh .non, .no] H1 ds1 := ei1.sh (i := 4) .non
    refine ⟨_, G1, ds1, ei1', base_seq (m := .rep) sp1 ei1' p1 fun G2 H2 v2 d2 ds2 ei2 s2 sp2 rv2 p2 => ?_⟩
    cases hd2 : isNonD d2 with
    | false => rw [hd2] at p2; exact p2.elim
    | true =>
    rw [hd2] at p2
    have half2 := half1.step tx td s2
    refine ⟨non_of hd2 rv2, (show 4 < 6 by decide), ?_⟩
    refine ⟨_, G2, ds2, ei2, base_seq (m := .rep) sp2 ei2 p2 fun G3 H3 v3 d3 ds3 ei3 s3 sp3 rv3 p3 => ?_⟩
    cases hd3 : isNonD d3 with
    | false => rw [hd3] at p3; exact p3.elim
    | true =>
    rw [hd3] at p3
    have half3 := half2.step tx td s3
    refine ⟨non_of hd3 rv3, (show 4 < 6 by decide), ?_⟩
    refine store_wp (dn := []) hcl hf1 rfl tx td hx ne sp3 ei3 half3 (fun q hq => by cases hq) (by decide) (of_decide_eq_true hm4) p3 fun G4 H4 vs4 d4 ds4 ei4 sp4 half4 p4 => ?_
    refine store_wp hcl hf2 rfl tx td hx ne sp4 ei4 half4 (fun q hq => ?_) (by simp) (of_decide_eq_true hm5) p4 fun G5 H5 vs5 d5 ds5 ei5 sp5 half5 p5 => ?_
    · simp at hq; subst hq; exact hd.1
    refine store_wp hcl hf3 rfl tx td hx ne sp5 ei5 half5 (fun q hq => ?_) (by simp) (of_decide_eq_true hm6) p5 fun G6 H6 vs6 d6 ds6 ei6 sp6 half6 p6 => ?_
    · simp at hq; rcases hq with rfl | rfl
      · exact hd.2.1
      · exact hd.2.2
    have k1 := sp6.know half6.gd hdx (o := .own ox)
    have gx2 : upd G6 dx (.own ox) ox = none := by rw [upd_ne (Ne.symm ne)]; exact half6.gx
    have k2 := k1.know gx2 hx (o := .ins (c.cl C) dx vs6)
    have on1 := ei6.on.know half6.own
    have on2 := on1.know half6.at_
    refine p6 _ H6 (.ref ox) on2 k2 ei6.st (.obj (dx := dx) upd_same (by rw [upd_ne ne]; exact upd_same) (half6.rf.mono ((Sub.upd half6.gd).trans (Sub.upd gx2)))) rfl
end
end IR
end
section
set_option Elab.async false
set_option linter.all false
set_option maxRecDepth 100000
set_option maxHeartbeats 4100000
namespace IR
open L2 PySem PySem.Spec PyProof.Rows
section
variable {Γ : Gm} {c : Cg} {tb : Nat → Fn} {ar : Nat → Nat} {P : Program} {w : World} {K : PySem.W.Frag} {mg : Str → Option Value} {base : Heap}
/-! ## _law_pick -/
theorem pick_fn {x qual : Str} {params : Arguments} {body : List Stmt} {scope : Scope} {dvs : List V} {kws : List (Str × V)} {a : Addr} {fd : FuncData} {f : Nat} {p1 p2 p3 p4 p5 p6 p7 p8 p9 p10 p11 p12 p13 p14 p15 p16 p17 p18 p19 p20 p21 p22 p23 p24 p25 p26 p27 p28 p29 p30 p31 p32 p33 p34 p35 p36 p37 p38 p39 p40 p41 p42 p43 p44 p45 p46 p47 p48 p49 p50 p51 p52 p53 p54 p55 p56 p57 p58 p59 p60 p61 p62 p63 p64 p65 p66 p67 p68 p69 p70 p71 p72 p73 p74 p75 p76 p77 p78 p79 p80 p81 p82 p83 p84 p85 p86 p87 p88 p89 p90 p91 p92 p93 p94 p95 p96 p97 p98 p99 p100 p101 p102 p103 p104 p105 p106 p107 p108 p109 p110 p111 p112 p113 p114 p115 p116 p117 p118 p119 p120 p121 p122 p123 p124 p125 : Pos} {j1 j2 j3 j4 j5 j6 j7 j8 j9 j10 j11 j12 j13 j14 j15 j16 j17 j18 j19 j20 j21 j22 j23 j24 j25 j26 j27 j28 j29 j30 j31 j32 j33 j34 : Nat}
    (F : FunD K x qual params body scope dvs kws a fd) (S0 : FnScope pickN ["state", "many"] scope) (hb : body = [
  (.Assign [(.Subscript (.Name "state" p1) (.Constant (.int 2) j1 p2) p3)] (.BinOp (.Subscript (.Name "state" p4) (.Constant (.int 2) j2 p5) p6) .Add (.Constant (.int 1) j3 p7) p8) p9),
  (.While (.BoolOp .And [(.Compare (.Subscript (.Name "state" p10) (.Constant (.int 1) j4 p11) p12) [.Eq] [(.Constant (.int 0) j5 p13)] p14), (.Compare (.Subscript (.Name "state" p15) (.Constant (.int 0) j6 p16) p17) [.NotEq] [(.List [] p18)] p19)] p20) [(.Assign [(.Name "cell" p21)] (.Call (.Name "abs" p22) [(.Call (.Attribute (.Subscript (.Name "state" p23) (.Constant (.int 0) j7 p24) p25) "pop" p26) [(.Constant (.int 0) j8 p27)] [] p28)] [] p29) p30), (.Assign [(.Subscript (.Name "state" p31) (.Constant (.int 3) j9 p32) p33)] (.BinOp (.Call (.Name "int" p34) [(.BinOp (.BinOp (.BinOp (.Subscript (.Name "state" p35) (.Constant (.int 3) j10 p36) p37) .Mult (.Constant (.int 6151) j11 p38) p39) .Add (.Name "cell" p40) p41) .Add (.Constant (.int 5) j12 p42) p43)] [] p44) .Mod (.Constant (.int 2147483647) j13 p45) p46) p47), (.Assign [(.Subscript (.Name "state" p48) (.Constant (.int 1) j14 p49) p50)] (.IfExp (.Compare (.Name "cell" p51) [.GtE] [(.BinOp (.Constant (.int 10) j15 p52) .Pow (.Constant (.int 18) j16 p53) p54)] p55) (.Name "cell" p56) (.Constant (.int 0) j17 p57) p58) p59)] [] p60),
  (.If (.Compare (.Subscript (.Name "state" p61) (.Constant (.int 1) j18 p62) p63) [.Gt] [(.Constant (.int 0) j19 p64)] p65) [(.Assign [(.Name "digit" p66)] (.BinOp (.Call (.Name "int" p67) [(.Subscript (.Name "state" p68) (.Constant (.int 1) j20 p69) p70)] [] p71) .Mod (.Name "many" p72) p73) p74), (.Assign [(.Subscript (.Name "state" p75) (.Constant (.int 1) j21 p76) p77)] (.BinOp (.Subscript (.Name "state" p78) (.Constant (.int 1) j22 p79) p80) .FloorDiv (.Name "many" p81) p82) p83), (.Return (some (.Name "digit" p84)) p85)] [] p86),
  (.Assign [(.Name "mixed" p87)] (.BinOp (.Call (.Name "int" p88) [(.BinOp (.BinOp (.BinOp (.Subscript (.Name "state" p89) (.Constant (.int 3) j23 p90) p91) .Add (.BinOp (.Constant (.int 7907) j24 p92) .Mult (.Subscript (.Name "state" p93) (.Constant (.int 2) j25 p94) p95) p96) p97) .Add (.Constant (.int 104723) j26 p98) p99) .Pow (.Constant (.int 5) j27 p100) p101)] [] p102) .Mod (.Constant (.int 2147483629) j28 p103) p104) p105),
  (.Return (some (.BinOp (.BinOp (.Call (.Name "int" p106) [(.BinOp (.BinOp (.BinOp (.BinOp (.Name "mixed" p107) .Mult (.Constant (.int 48271) j29 p108) p109) .Add (.BinOp (.Constant (.int 30011) j30 p110) .Mult (.Subscript (.Name "state" p111) (.Constant (.int 2) j31 p112) p113) p114) p115) .Add (.Constant (.int 31) j32 p116) p117) .Pow (.Constant (.int 3) j33 p118) p119)] [] p120) .Mod (.Constant (.int 1000000007) j34 p121) p122) .Mod (.Name "many" p123) p124)) p125)])
    (lo : ∀ n ∈ pickN, scope.names.lookup n = some .local) (ga : scope.names.lookup ("abs" : Str) = some .globalImplicit) (gi : scope.names.lookup ("int" : Str) = some .globalImplicit) (ma : mg "abs" = none) (mi : mg "int" = none) (hl : (p26.endLine == p28.line) = true) (hf : Γ.fr f = false) :
    FnOk P w K mg base (L2.CX P w) 1 a fd ["state", "many"] (spF Γ c (fun _ as ds => if as.length = 2 then pickF as ds else .no) f 2) := by
  refine F.ok S0 (fun vs H Q E h => ?_) fun cdv A outer s H vs Q E hr h => ?_
  · obtain ⟨_, _, _, _, _, _, _, h1, _⟩ := h
    exact h1
  · obtain ⟨G, as, ds, n, tn, st, rs, hvl, p⟩ := h
    have p : Post c E (if Γ.fr f then .fr else .rep) G H (if as.length = 2 then pickF as ds else .no) Q := p
    by_cases hal : as.length = 2
    rotate_left
    · rw [if_neg hal] at p; exact p.elim
    rw [if_pos hal, hf] at p
    subst hb
    have hX : PkX (cxOf (L2.CX P w) P w K mg base pickN qual scope a cdv A outer s H E) := {
      N := rfl, calm := rfl, lo := lo, ga := ga, gi := gi, ma := ma, mi := mi, po := passes_of rfl, un := by have := hr.un; show (A.deeper _).units + 65 < cLine; omega }
    obtain ⟨t, ht, wp⟩ := pick_body (X := cxOf (L2.CX P w) P w K mg base pickN qual scope a cdv A outer s H E) (p1 := p1) (p2 := p2) (p3 := p3) (p4 := p4) (p5 := p5) (p6 := p6) (p7 := p7) (p8 := p8) (p9 := p9) (p10 := p10) (p11 := p11) (p12 := p12) (p13 := p13) (p14 := p14) (p15 := p15) (p16 := p16) (p17 := p17) (p18 := p18) (p19 := p19) (p20 := p20) (p21 := p21) (p22 := p22) (p23 := p23) (p24 := p24) (p25 := p25) (p26 := p26) (p27 := p27) (p28 := p28) (p29 := p29) (p30 := p30) (p31 := p31) (p32 := p32) (p33 := p33) (p34 := p34) (p35 := p35) (p36 := p36) (p37 := p37) (p38 := p38) (p39 := p39) (p40 := p40) (p41 := p41) (p42 := p42) (p43 := p43) (p44 := p44) (p45 := p45) (p46 := p46) (p47 := p47) (p48 := p48) (p49 := p49) (p50 := p50) (p51 := p51) (p52 := p52) (p53 := p53) (p54 := p54) (p55 := p55) (p56 := p56) (p57 := p57) (p58 := p58) (p59 := p59) (p60 := p60) (p61 := p61) (p62 := p62) (p63 := p63) (p64 := p64) (p65 := p65) (p66 := p66) (p67 := p67) (p68 := p68) (p69 := p69) (p70 := p70) (p71 := p71) (p72 := p72) (p73 := p73) (p74 := p74) (p75 := p75) (p76 := p76) (p77 := p77) (p78 := p78) (p79 := p79) (p80 := p80) (p81 := p81) (p82 := p82) (p83 := p83) (p84 := p84) (p85 := p85) (p86 := p86) (p87 := p87) (p88 := p88) (p89 := p89) (p90 := p90) (p91 := p91) (p92 := p92) (p93 := p93) (p94 := p94) (p95 := p95) (p96 := p96) (p97 := p97) (p98 := p98) (p99 := p99) (p100 := p100) (p101 := p101) (p102 := p102) (p103 := p103) (p104 := p104) (p105 := p105) (p106 := p106) (p107 := p107) (p108 := p108) (p109 := p109) (p110 := p110) (p111 := p111) (p112 := p112) (p113 := p113) (p114 := p114) (p115 := p115) (p116 := p116) (p117 := p117) (p118 := p118) (p119 := p119) (p120 := p120) (p121 := p121) (p122 := p122) (p123 := p123) (p124 := p124) (p125 := p125) (j1 := j1) (j2 := j2) (j3 := j3) (j4 := j4) (j5 := j5) (j6 := j6) (j7 := j7) (j8 := j8) (j9 := j9) (j10 := j10) (j11 := j11) (j12 := j12) (j13 := j13) (j14 := j14) (j15 := j15) (j16 := j16) (j17 := j17) (j18 := j18) (j19 := j19) (j20 := j20) (j21 := j21) (j22 := j22) (j23 := j23) (j24 := j24) (j25 := j25) (j26 := j26) (j27 := j27) (j28 := j28) (j29 := j29) (j30 := j30) (j31 := j31) (j32 := j32) (j33 := j33) (j34 := j34) hX hl
    refine ⟨t, ht, ?_⟩
    match as, rs, hal with
    | [da, db], .cons (v := va) ra (.cons (v := vb) rb .nil), _ =>
    cases da <;> first | (exact p.elim; done) | skip
    obtain ⟨many, rfl⟩ : ∃ m, db = .int m := by
      cases db <;> first | exact ⟨_, rfl⟩ | exact p.elim
    cases rb
    cases ra with
    | @st s0 i0 hT =>
    obtain ⟨ne, h1, h2⟩ := st s0 i0 hT
    have p : Post c E .rep G H (pickS many ds) Q := p
    cases hp : pickS many ds with
    | no => rw [hp] at p; exact p.elim
    | er _ _ _ =>
      exfalso
      unfold pickS at hp
      split at hp
      · split at hp
        split at hp <;> cases hp
      · cases hp
    | ok d ds' =>
      rw [hp] at p
      refine wp _ s0 i0 many ds ds' d H ne ⟨h1, h2⟩ hp fun H' m hd hs hfr => ?_
      subst hd
      have hno : ∀ q, ¬ inT c.toCf q → q ≠ s0 ∧ q ≠ i0 := fun q hq => ⟨fun z => hq ⟨s0, i0, hT, .inl z⟩, fun z => hq ⟨s0, i0, hT, .inr z⟩⟩
      refine p G H' (.int m) (fun q o hq => ?_) ⟨Sub.refl G, fun q hq ht => hfr q hq (hno q ht).1 (hno q ht).2, fun _ _ z => z⟩ (fun s' i' e => ?_) (.int m)
      · have nt : ¬ inT c.toCf q := fun z => by rw [tn q z] at hq; cases hq
        rw [hfr q (n.there hq) (hno q nt).1 (hno q nt).2]
        exact n q o hq
      · rw [hT] at e
        cases e
        exact ⟨ne, hs.1, hs.2⟩
/-! ## _law_start -/
def spStart (K : PySem.W.Frag) : Sp := fun vs H Q _ => ∃ (a : Addr) (ns : List Int), vs = [.ref a] ∧ SqL K H a (ns.map V.int) ∧ ∀ s i, H i = none → upd H i (.lst (ns.map V.int)) s = none → Q (.ref s) (upd (upd H i (.lst (ns.map V.int))) s (.lst [.ref i, .int 0, .int 0, .int 29]))
theorem start_fn {x qual : Str} {params : Arguments} {body : List Stmt} {scope : Scope} {dvs : List V} {kws : List (Str × V)} {a : Addr} {fd : FuncData} {CX : CXT} {p1 p2 p3 p4 p5 p6 p7 p8 : Pos} {j1 j2 j3 : Nat}
    (F : FunD K x qual params body scope dvs kws a fd) (S0 : FnScope ["script"] ["script"] scope) (hb : body = [.Return (some (.List [.Call (.Name "list" p1) [.Name "script" p2] [] p3, .Constant (.int 0) j1 p4, .Constant (.int 0) j2 p5, .Constant (.int 29) j3 p6] p7)) p8])
    (lo : scope.names.lookup ("script" : Str) = some .local) (gl : scope.names.lookup ("list" : Str) = some .globalImplicit) (ml : mg "list" = none) : FnOk P w K mg base CX 1 a fd ["script"] (spStart K) := by
  refine F.ok S0 (fun vs H Q E h => ?_) fun cdv A outer s H vs Q E hr h => ?_
  · obtain ⟨_, _, rfl, _⟩ := h
    rfl
  · subst hb
    refine ⟨_, pss_one (ps_ret (pe_lst (pa_cons (pe_callTy call_list_of gl ml rfl (pa_one (pe_var (i := 0) rfl (.inl lo) (by decide) (by decide)) rfl) (by decide) (by decide) rfl rfl) (pa_cons pe_int (pa_cons pe_int (pa_cons pe_int pa_nil)))))), ?_⟩
    obtain ⟨la, ns, rfl, hs, q⟩ := h
    exact ⟨_, rfl, la, _, rfl, .inl hs, fun i hi => ⟨(show 4 ≤ sizeLine by rw [sizeLine_eq]; decide), fun s0 hs0 => q s0 i hi hs0⟩⟩
end
end IR
end
section
set_option Elab.async false
set_option linter.all false
set_option maxRecDepth 100000
set_option maxHeartbeats 4100000
namespace IR
open L2 PySem PySem.Spec PyProof.Rows
section
variable {Γ : Gm} {c : Cg} {tb : Nat → Fn} {ar : Nat → Nat} {P : Program} {w : World} {K : PySem.W.Frag} {mg : Str → Option Value} {base : Heap}
/-- the list of draws is at T -/
def Cg.at (c : Cg) (T : Addr × Addr) : Cg := { c with T := some T }
def spLaw (K : PySem.W.Frag) (most : Nat) : Sp := fun vs H Q _ => ∃ (a : Addr) (ns : List Int), vs = [.ref a] ∧ ns.length ≤ most ∧ SqL K H a (ns.map V.int) ∧ ∀ H', Q (.bl true) H'
theorem law_fn {x qual : Str} {params : Arguments} {body rest : List Stmt} {scope : Scope} {dvs : List V} {kws : List (Str × V)} {a aS : Addr} {fd fdS : FuncData} {N : List Str} {b : S} {k most : Nat} {nS n0 nF : Str} {p1 p2 p3 p4 p5 : Pos}
    (F : FunD K x qual params body scope dvs kws a fd) (S0 : FnScope N [n0] scope) (hb : body = .Assign [.Name nS p1] (.Call (.Name nF p2) [.Name n0 p3] [] p4) p5 :: rest) (hc : chkSs Γ N scope b rest = true)
    (h0 : (decide (N[0]? = some n0) && visB scope n0 && okN n0) = true) (h1 : (decide (N[1]? = some nS) && locB scope nS) = true) (hF : glB scope nF = true)
    (mS : mg nF = some (.ref aS)) (kS : PySem.W.keepIn K (.ref aS) = true) (bS : Binds K fdS ["script"] []) (fS : FnOk P w K mg base (L2.CX P w) 1 aS fdS ["script"] (spStart K))
    (g : ∀ T, GX Γ (c.at T) (callM Γ tb k) ar k P w K mg base)
    (hp : ∀ ns : List Int, ns.length ≤ most → ∃ s', exec Γ (callM Γ tb k) false fuelW b (.no :: .sh .st :: List.replicate (N.length - 2) .no) ⟨ns, 0, 0, 29⟩ = .ok (.rt (.bl true)) s') :
    FnOk P w K mg base (L2.CX P w) (k + 1 + 1) a fd [n0] (spLaw K most) := by
  (simp only [Bool.and_eq_true] at h1)
  refine F.ok S0 (fun vs H Q E h => ?_) fun cdv A outer s H vs Q E hr h => ?_
  · obtain ⟨_, _, rfl, _⟩ := h
    rfl
  · subst hb
    have hX := fun T => st_cx (Γ := Γ) (qual := qual) (a := a) (cdv := cdv) (outer := outer) (s := s) (H := H) (E := E) S0 hr (g T)
    have hX0 := hX (0, 0)
    obtain ⟨g1, g2⟩ := gl_of hX0.toCxOk hF
    have hrest : PSs (cxOf (L2.CX P w) P w K mg base N qual scope a cdv A outer s H E) rest (fun D σ H => ∃ (T : Addr × Addr) (Ge He : Hp), tX (c.at T) E false Ge He (exec Γ (callM Γ tb k) false fuelW b) D σ H) :=
      ⟨fun pn s1 σ H1 D I ⟨T, Ge, He, q⟩ => (s_Ss (fr := false) (Ge := Ge) (He := He) (W := fuelW) (hX T) hc).run pn s1 σ H1 D I q⟩
    refine ⟨_, pss_cons (ps_set S0.nd (of_decide_eq_true h1.1) (loc_of hX0.toCxOk h1.2) (pe_call fS (hr.mono (by omega)) g1 mS kS bS .nil hX0.pass (pa_one (var_of hX0.toCxOk h0) rfl) g2 rfl rfl) rfl (.inl rfl)) hrest, ?_⟩
    obtain ⟨la, ns, rfl, hlen, hs, q⟩ := h
    obtain ⟨s', he⟩ := hp ns hlen
    (simp only [Bool.and_eq_true] at h0)
    have n0' : 0 < N.length := by
      have := of_decide_eq_true h0.1.1
      rw [List.getElem?_eq_some_iff] at this
      exact this.1
    have n1' : 1 < N.length := by
      have := of_decide_eq_true h1.1
      rw [List.getElem?_eq_some_iff] at this
      exact this.1
    have hst : L2.start N [V.ref la] = some (.ref la) :: none :: List.replicate (N.length - 2) none := by
      unfold L2.start
      have : N.length - [V.ref la].length = (N.length - 2) + 1 := by simp; omega
      rw [this, List.replicate_succ]
      rfl
    rw [hst]
    refine ⟨.ref la, rfl, la, ns, rfl, hs, fun s0 i0 hi hs0 => ?_⟩
    have ne : s0 ≠ i0 := fun z => by rw [z, upd_same] at hs0; cases hs0
    have hlen2 : (List.replicate (N.length - 2) (Slot.no)).length = (List.replicate (N.length - 2) (none : Option V)).length := by simp
    refine ⟨(s0, i0), fun _ => none, _, .no :: .sh .st :: List.replicate (N.length - 2) .no, fun _ => none, ⟨ns, 0, 0, 29⟩, ⟨⟨by simp, fun a u z => (by cases z), fun _ _ => rfl, fun s1 i1 e => ?_, fun j z hz => ?_⟩, Stp.refl _ _ _, fun j d p hj _ => ?_, fun i j di dj p q _ hi' _ _ _ => ?_⟩, ?_⟩
    · cases e
      exact ⟨ne, upd_same, by rw [upd_ne (Ne.symm ne)]; exact upd_same⟩
    · match j, hz with
      | 0, hz => cases hz; trivial
      | 1, hz => cases hz; exact ⟨.ref s0, rfl, .st rfl⟩
      | j + 2, hz =>
        have hz : (List.replicate (N.length - 2) Slot.no)[j]? = some z := hz
        have := (List.mem_replicate.mp (List.mem_of_getElem? hz)).2
        subst this
        trivial
    · match j, hj with
      | 0, hj => cases hj
      | 1, hj => cases hj
      | j + 2, hj =>
        have hj : (List.replicate (N.length - 2) Slot.no)[j]? = some (Slot.own d) := hj
        have := (List.mem_replicate.mp (List.mem_of_getElem? hj)).2
        cases this
    · match i, hi' with
      | 0, hi' => cases hi'
      | 1, hi' => cases hi'
      | i + 2, hi' =>
        have hi' : (List.replicate (N.length - 2) Slot.no)[i]? = some (Slot.own di) := hi'
        have := (List.mem_replicate.mp (List.mem_of_getElem? hi')).2
        cases this
    · rw [he]
      intro G' H' v n1 s1 t1 r1
      have r1 : Rep (c.at (s0, i0)).toCf G' v (.bl true) := r1
      cases r1
      exact q H'
end
end IR
end
section
set_option Elab.async false
set_option linter.all false
set_option maxRecDepth 100000
set_option maxHeartbeats 4100000
namespace IR
open L2 PySem PySem.Spec PyProof.Rows
section
variable {Γ1 : Gm} {P : Program} {w : World} {K : PySem.W.Frag} {mg : Str → Option Value} {base : Heap}
/-- a def that lets nothing out -/
theorem fnok_calm {k : Nat} {a : Addr} {fd : FuncData} {ps : List Str} {sp : Sp} (F : FnOk P w K mg base (L2.CX P w) k a fd ps sp) : FnOk P w K mg base L2.CX0 k a fd ps (fun vs H Q _ => sp vs H Q (fun _ _ _ => False)) :=
  ⟨fun vs H Q _ h => F.len vs H Q _ h, fun A outer s H args us vs Q E hr e0 hb r h => codeAny_mono (F.run A outer s H args us vs Q (fun _ _ _ => False) hr e0 hb r h) fun x s' z => by
    cases x with
    | ok f =>
      cases f with
      | ret u => exact z
      | _ => exact z
    | error e =>
      obtain ⟨_, _, _, _, _, _, _, _, _, _, _, _, z⟩ := z
      exact z.elim⟩
end
end IR
end
section
set_option Elab.async false
set_option linter.all false
set_option maxRecDepth 100000
set_option maxHeartbeats 4100000
namespace IR
open L2
open PySem (Str PyData)
/-! ## lists kept by a key of two levels: ((word, ..), here) -/
abbrev Nky := List Str × Str
def strsOf : List D → Option (List Str)
  | [] => some []
  | .str x :: r => (strsOf r).map (x :: ·)
  | _ => none
def nkget (kvs : List (Nky × D)) (k : Nky) : Option D := (kvs.find? fun p => decide (p.1 = k)).map (·.2)
def nkput (kvs : List (Nky × D)) (k : Nky) (d : D) : List (Nky × D) :=
  if (kvs.any fun p => decide (p.1 = k)) then kvs.map fun p => if p.1 = k then (p.1, d) else p else kvs ++ [(k, d)]
/-- whether two unlike lists stand under one key; none: stuck -/
def tlIn : List D → List (Nky × D) → Option Bool
  | [], _ => some false
  | .tup [.lst ps, .lst ws, .str h] :: r, kvs => (match strsOf ws with
    | some xs => if xs.length < 1000 ∧ kvs.length < lim then (match eqD ((nkget kvs (xs, h)).getD (.lst ps)) (.lst ps) with
      | some true => tlIn r (nkput kvs (xs, h) (.lst ps))
      | some false => some true
      | none => none) else none
    | none => none)
  | _, _ => none
section
variable (Γ : Gm) (cf : Nat → List D → DS → Out D) (fp : Nat)
def tlOnes (raw many : D) : List D → DS → Out D
  | [], s => .ok (.bl false) s
  | one :: r, s => (itM Γ cf (.l (.call fp (.cons (.v 0) (.cons (.v 2) (.cons (.v 1) .nil))))) [.sh raw, .sh many, .sh one, .no, .no, .no, .no, .no] s).bind fun ds s => match tlIn ds [] with
    | some true => .ok (.bl true) s
    | some false => tlOnes raw many r s
    | none => .no
def tlM : List D → DS → Out D
  | [raw, many], s => (itM Γ cf (.l (.sub (.rv 0) (.c (.int 0)))) [.sh raw, .sh many, .no, .no, .no, .no, .no, .no] s).bind fun ones s => tlOnes Γ cf fp raw many ones s
  | _, _ => .no
end
end IR
end
section
set_option Elab.async false
set_option linter.all false
set_option maxRecDepth 100000
set_option maxHeartbeats 4100000
namespace IR
open L2 PySem PySem.Spec PyProof.Rows
/-! ## dicts by keys of two levels, over the layer -/
def nkK (q : Nky) : NestedKey := .tup [.tup (q.1.map NestedKey.text), .text q.2]
theorem texts_inj : ∀ {a b : List Str}, a.map NestedKey.text = b.map NestedKey.text → a = b
  | [], [], _ => rfl
  | [], _ :: _, e => (by simp at e)
  | _ :: _, [], e => (by simp at e)
  | x :: xs, y :: ys, e => by
    simp only [List.map_cons, List.cons.injEq, NestedKey.text.injEq] at e
    rw [e.1, texts_inj e.2]
theorem nkK_inj {p q : Nky} (h : nkK p = nkK q) : p = q := by
  unfold nkK at h
  simp only [NestedKey.tup.injEq, List.cons.injEq, NestedKey.text.injEq, and_true] at h
  exact Prod.ext (texts_inj h.1) h.2
theorem depthAll_texts : ∀ xs : List Str, NestedKey.depthAll (xs.map NestedKey.text) = 0
  | [] => by simp [NestedKey.depthAll]
  | x :: xs => by simp [NestedKey.depthAll, NestedKey.depth, depthAll_texts xs]
theorem nkK_depth (q : Nky) : (nkK q).depth ≤ 8 := by
  unfold nkK
  simp [NestedKey.depth, NestedKey.depthAll, depthAll_texts]
/-- the tuples of a key stand at a -/
def NkAt (H : Hp) (a : Addr) (q : Nky) : Prop := ∃ b, H a = some (.tup [.ref b, .str q.2]) ∧ H b = some (.tup (q.1.map V.str))
theorem NkAt.keeps {H H' : Hp} {a : Addr} {q : Nky} (n : NkAt H a q) (k : ∀ b ys, H b = some (.tup ys) → H' b = some (.tup ys)) : NkAt H' a q := by
  obtain ⟨b, h1, h2⟩ := n
  exact ⟨b, k _ _ h1, k _ _ h2⟩
theorem texts_are {h : Heap} : ∀ {xs : List Str} {us : List Value}, Vals (xs.map V.str) us → NestedAll h (xs.map NestedKey.text) us
  | [], _, r => by cases r; exact .nil
  | x :: xs, _, r => by
    cases r with
    | cons r1 r2 =>
      obtain ⟨t, rfl⟩ := r1
      exact .cons (.text x t) (texts_are r2)
section
variable {P : Program} {w : World} {H : Hp} {h : Heap} {a L : Addr} {q : Nky}
theorem nk_is (ok : HOk P w H h) (n : NkAt H a q) : (nestedKind P w).is h (nkK q) a := by
  obtain ⟨b, ha, hb⟩ := n
  obtain ⟨_, ia, ra, oa, a1, a2, na, a3⟩ := (show ObjOk P w H h a (.tup [.ref b, .str q.2]) from ok a _ ha)
  obtain ⟨_, ib, rb, ob, b1, b2, nb, b3⟩ := (show ObjOk P w H h b (.tup (q.1.map V.str)) from ok b _ hb)
  refine ⟨NestedIs.tup a1 a2 a3 ?_, nkK_depth q⟩
  rw [List.toList_toArray]
  cases ra with
  | cons r1 ra => cases ra with
    | cons r2 ra =>
      cases ra
      cases r1
      obtain ⟨t, rfl⟩ := r2
      refine .cons (NestedIs.tup b1 b2 b3 ?_) (.cons (.text _ t) .nil)
      rw [List.toList_toArray]
      exact texts_are rb
/-- at L: the dict with these entries -/
def nO (P : Program) (w : World) (L : Addr) (xs : List (NestedKey × Addr × Value)) : HO := .ext fun h => ∃ o es ep, h.get? L = some o ∧ o.ExactDict ∧ o.data = .dict es ep ∧ es.toList = xs.map (entryOfKey (nestedKind P w))
theorem nO_ok {o : Obj} {es : Array DictEntry} {ep : Nat} {xs : List (NestedKey × Addr × Value)} (h1 : h.get? L = some o) (h2 : o.ExactDict) (h3 : o.data = .dict es ep) (h4 : es.toList = xs.map (entryOfKey (nestedKind P w))) : ObjOk P w H h L (nO P w L xs) :=
  ⟨⟨o, es, ep, h1, h2, h3, h4⟩, ⟨o, h1⟩, fun u v ⟨o, es, ep, h1, h2, h3, h4⟩ k => ⟨o, es, ep, k _ h1, h2, h3, h4⟩⟩
abbrev NT (H : Hp) : List (Nky × V) → List (NestedKey × Addr × Value) → Prop := Paired fun p x => x.1 = nkK p.1 ∧ NkAt H x.2.1 p.1 ∧ RelV p.2 x.2.2
theorem NT.val {kvs : List (Nky × V)} {xs : List (NestedKey × Addr × Value)} (r : NT H kvs xs) (k : Nky) : RelO (valV kvs k) ((atKey xs (nkK k)).map (·.2)) := by
  induction r with
  | nil => exact True.intro
  | @cons p x ps zs h _ ih =>
    by_cases e : p.1 = k
    · have e' : x.1 = nkK k := by rw [h.1, e]
      rw [valV_pos e, show atKey (x :: zs) (nkK k) = some x.2 by simp [atKey, List.find?_cons, e']]
      exact h.2.2
    · have e' : ¬ x.1 = nkK k := fun z => e (nkK_inj (h.1.symm.trans z))
      rw [valV_neg e, show atKey (x :: zs) (nkK k) = atKey zs (nkK k) by simp [atKey, List.find?_cons, e']]
      exact ih
theorem NT.repl {kvs : List (Nky × V)} {xs : List (NestedKey × Addr × Value)} (r : NT H kvs xs) (k : Nky) {y : V} {u : Value} (ry : RelV y u) :
    NT H (kvs.map fun p => if p.1 = k then (p.1, y) else p) (xs.map (putAt (nkK k) u)) := by
  induction r with
  | nil => exact .nil
  | @cons p x ps zs h _ ih =>
    (rw [List.map_cons, List.map_cons])
    refine .cons ?_ ih
    unfold putAt
    by_cases e : p.1 = k
    · rw [if_pos e, if_pos (by rw [h.1, e])]; exact ⟨h.1, h.2.1, ry⟩
    · rw [if_neg e, if_neg (fun z => e (nkK_inj (h.1.symm.trans z)))]; exact h
theorem NT.put {kvs : List (Nky × V)} {xs : List (NestedKey × Addr × Value)} (r : NT H kvs xs) {b : Addr} {y : V} {u : Value} (hb : NkAt H b q) (ry : RelV y u) : NT H (putK kvs q y) (storedH xs (nkK q) b u) := by
  have e : (kvs.any fun p => decide (p.1 = q)) = (atKey xs (nkK q)).isSome := by
    rw [valV_any, (r.val q).isSome_eq, Option.isSome_map]
  unfold putK storedH
  rw [e]
  by_cases z : (atKey xs (nkK q)).isSome = true
  · rw [if_pos z, if_pos z]; exact r.repl q ry
  · rw [if_neg z, if_neg z]; exact Paired.snoc r ⟨rfl, hb, ry⟩
theorem NT.keeps {H' : Hp} {kvs : List (Nky × V)} {xs : List (NestedKey × Addr × Value)} (r : NT H kvs xs) (ht : ∀ b ys, H b = some (.tup ys) → H' b = some (.tup ys)) : NT H' kvs xs :=
  Paired.mapP r fun _ _ z => ⟨z.1, z.2.1.keeps ht, z.2.2⟩
theorem NT.keys {kvs : List (Nky × V)} {xs : List (NestedKey × Addr × Value)} (r : NT H kvs xs) : xs.map (·.1) = (kvs.map (·.1)).map nkK := by
  induction r with
  | nil => rfl
  | cons h _ ih => rw [List.map_cons, List.map_cons, List.map_cons, ih, h.1]
/-- the dict at L, by what it holds -/
structure Nd (P : Program) (w : World) (H : Hp) (L : Addr) (kvs : List (Nky × V)) : Prop where
  len : kvs.length ≤ sizeLine
  ns : (L == sysModules) = false
  nd : (kvs.map (·.1)).Nodup
  ex : ∃ xs, H L = some (nO P w L xs) ∧ NT H kvs xs
theorem Nd.keeps {H' : Hp} {kvs : List (Nky × V)} (n : Nd P w H L kvs) (hL : H' L = H L) (ht : ∀ b ys, H b = some (.tup ys) → H' b = some (.tup ys)) : Nd P w H' L kvs := by
  obtain ⟨xs, e, r⟩ := n.ex
  exact ⟨n.len, n.ns, n.nd, xs, hL.trans e, r.keeps ht⟩
theorem Nd.at' {kvs : List (Nky × V)} (ok : HOk P w H h) (n : Nd P w H L kvs) : ∃ xs, H L = some (nO P w L xs) ∧ NT H kvs xs ∧ h.DictOfH (nestedKind P w) L xs := by
  obtain ⟨xs, e, r⟩ := n.ex
  obtain ⟨⟨o, es, ep, h1, h2, h3, h4⟩, _⟩ := (show ObjOk P w H h L (nO P w L xs) from ok L _ e)
  refine ⟨xs, e, r, o, es, ep, h1, h2, h3, h4, ?_, ?_⟩
  · have all : ∀ {l : List (Nky × V)} {m : List (NestedKey × Addr × Value)}, NT H l m → ∀ x ∈ m, (nestedKind P w).is h x.1 x.2.1 := by
      intro l m r
      induction r with
      | nil => (intro x hx; exact nomatch hx)
      | @cons p x ps zs hq _ ih =>
        intro y hy
        (rcases List.mem_cons.mp hy with rfl | hy)
        · rw [hq.1]; exact nk_is ok hq.2.1
        · exact ih y hy
    exact all r
  · rw [r.keys]
    exact List.Pairwise.map nkK (fun a b h e => h (nkK_inj e)) n.nd
theorem putK_keys {kvs : List (Nky × V)} {v : V} (n : (kvs.map (·.1)).Nodup) : ((putK kvs q v).map (·.1)).Nodup := by
  unfold putK
  split
  · rw [List.map_map]
    have : ((fun p : Nky × V => p.1) ∘ fun p => if p.1 = q then (p.1, v) else p) = fun p => p.1 := by
      funext p
      simp only [Function.comp]
      split <;> rfl
    rw [this]
    exact n
  · rename_i h
    (rw [List.map_append, List.nodup_append])
    refine ⟨n, by simp, fun a ha b hb e => ?_⟩
    have hb : b = q := by simpa using hb
    obtain ⟨p, hp, rfl⟩ := List.mem_map.mp ha
    exact h (List.any_eq_true.mpr ⟨p, hp, decide_eq_true (e.trans hb)⟩)
end
section
variable {X : Cx} {pins : List (Addr × Obj)} {σ : L2.St} {H : Hp} {s : Shared} {L b : Addr} {y v d : V} {u r : Value} {A : Around} {E : Value → Shared → Prop} {kvs : List (Nky × V)} {q : Nky}
theorem room_n (hu : A.units + 9 < cLine) : (nestedKind X.prog X.w).room A.in1 := by show A.units + 1 + 8 < cLine; omega
/-- lists.get(key, x) -/
theorem n_get {Q : Value → Shared → Prop} (hu : A.units + 9 < cLine) (I : Inv X pins σ H s) (n : Nd X.prog X.w H L kvs) (hb : NkAt H b q) (rd : RelV d r) (h : ∀ w' s', Inv X pins σ H s' → RelV ((valV kvs q).getD d) w' → Q w' s') :
    wpAny (model X.prog X.w) A (call (.builtin "dict.get") [.ref L, .ref b, r]) Q E s := by
  obtain ⟨xs, e, rel, dd⟩ := n.at' I.hok
  refine call_meetsIn PySem.F.slot_dict_get dd.typeIs PySem.F.entry_dict_get (PySem.F.args_dict_get_3 _ _ _) (meetsH_dict_get_default (nestedKind X.prog X.w) L b n.ns r) ⟨room_n hu, nkK q, xs, nk_is I.hok hb, dd, h _ _ (I.tok _) ?_⟩
  exact (rel.val q).getD rd
/-- lists[key] = v -/
theorem n_put {Q : Unit → Shared → Prop} (hu : A.units + 9 < cLine) (I : Inv X pins σ H s) (n : Nd X.prog X.w H L kvs) (hb : NkAt H b q) (hl : kvs.length < sizeLine) (rv : RelV v r)
    (h : ∀ xs s', Inv X pins σ (upd H L (nO X.prog X.w L xs)) s' → Nd X.prog X.w (upd H L (nO X.prog X.w L xs)) L (putK kvs q v) → Q () s') : wpAny (model X.prog X.w) A (setItem (.ref L) (.ref b) r) Q E s := by
  obtain ⟨xs, e, rel, dd⟩ := n.at' I.hok
  have hz : xs.length ≤ sizeLine := by rw [← Paired.length rel]; exact n.len
  have hl' : (putK kvs q v).length ≤ sizeLine := by have := length_putK kvs q v; omega
  refine wpAny_setItem_heap (hsz := hz) (room_n hu) (nk_is I.hok hb) dd fun h' dd' hs => ?_
  obtain ⟨o, es, ep, h1, h2, h3, h4, _, _⟩ := dd'
  have I2 := d_write (ob := nO X.prog X.w L (storedH xs (nkK q) b r)) (t' := s.toks + (nestedKind X.prog X.w).draws (nkK q)) I (by rw [e]; exact True.intro) hs ⟨o, h1⟩ (nO_ok h1 h2 h3 h4)
  have keep : ∀ c ys, H c = some (.tup ys) → upd H L (nO X.prog X.w L (storedH xs (nkK q) b r)) c = some (.tup ys) := fun c ys ec => by
    (rw [upd_ne (ne_of ec e (fun z => nomatch z))])
    exact ec
  exact h _ _ I2 ⟨hl', n.ns, putK_keys n.nd, _, upd_same, (rel.put hb rv).keeps keep⟩
end
/-! ### rules -/
def tNNew (P : Program) (w : World) : TE := fun _ H Q => ∀ p, H p = none → Nd P w (upd H p (nO P w p [])) p [] → Q (.ref p) (upd H p (nO P w p []))
def tNGet (P : Program) (w : World) (td ty tx : TE) : TE := fun σ H Q => td σ H fun x H1 => ∃ L kvs, x = .ref L ∧ Nd P w H1 L kvs ∧ ty σ H1 fun y H2 => tx σ H2 fun z H3 => ∃ b q, Nd P w H3 L kvs ∧ y = .ref b ∧ NkAt H3 b q ∧ Q ((valV kvs q).getD z) H3
def sNPut (P : Program) (w : World) (td ty tv : TE) : TS := fun D σ H => tv σ H fun v H1 => td σ H1 fun x H2 => ty σ H2 fun y H3 => ∃ L kvs b q, x = .ref L ∧ Nd P w H3 L kvs ∧ y = .ref b ∧ NkAt H3 b q ∧ kvs.length < sizeLine ∧
  ∀ xs, Nd P w (upd H3 L (nO P w L xs)) L (putK kvs q v) → D.nx σ (upd H3 L (nO P w L xs))
section
variable {X : Cx} {o i e f value : Expr} {pos pos' apos cpos : Pos} {td ty tx tv : TE}
theorem pe_nnew : PE X (.Dict [] [] pos) (tNNew X.prog X.w) := ⟨fun pins s σ H Q I h => by
  (have hn : H s.heap.objs.size = none := I.hok.fresh (Nat.le_refl _))
  refine wpAny_Dict_empty ⟨.ref s.heap.objs.size, _, I.laid (a := s.heap.objs.size) (o := nO X.prog X.w s.heap.objs.size []) (t' := s.toks) (fun _ _ q => Heap.get?_push_of_some _ q) (Nat.le_refl _) (nO_ok (Heap.get?_push_size _ rfl) ⟨rfl, rfl, rfl⟩ rfl rfl), rfl, h _ hn ?_⟩
  exact ⟨Nat.zero_le _, beq_eq_false_iff_ne.mpr (Ne.symm (Nat.ne_of_lt I.big)), List.nodup_nil, [], upd_same, .nil⟩⟩
theorem pe_nget (hu : X.A.units + 9 < cLine) (ho : PE X o td) (he : PE X e ty) (hf : PE X f tx) (m : M2 X o "get" apos e f cpos) : PE X (.Call (.Attribute o "get" apos) [e, f] [] cpos) (tNGet X.prog X.w td ty tx) := by
  (refine ⟨fun pins s σ H Q I h => ?_⟩)
  refine wpAny_Call_method m.base m.few m.line PySem.F.plainAttrs_dict PySem.F.slot_dict_get PySem.F.type_dict_get (thn (ho.run pins s σ H _ I h) fun u s1 ⟨x, H1, I1, rx, L, kvs, ex, n1, q1⟩ => ?_)
  subst ex
  obtain rfl : u = Value.ref L := rx
  obtain ⟨xs, _, _, dd⟩ := n1.at' I1.hok
  refine ⟨dd.typeIs, fun b z => ?_, ?_⟩
  · cases z
    (obtain ⟨ob, _, _, h1, h2, _⟩ := dd)
    exact ⟨ob, h1, h2.2.1⟩
  rw [m.trees]
  refine Calls.callWith_builtin rfl (Calls.evalArgs_plain (Calls.spliced_cons (thn (he.run pins s1 σ H1 _ I1 q1) fun kv s2 ⟨ky, H2, I2, ry, q2⟩ =>
    Calls.spliced_cons (thn (hf.run pins s2 σ H2 _ I2 q2) fun fv s3 ⟨z, H3, I3, rz, b, q, n3, ey, hb, q3⟩ => Calls.spliced_nil ?_))))
  subst ey
  obtain rfl : kv = Value.ref b := ry
  exact n_get hu I3 n3 hb rz fun w' s4 I4 rw' => ⟨_, H3, I4, rw', q3⟩
theorem ps_nput (hu : X.A.units + 9 < cLine) (ho : PE X o td) (hi : PE X i ty) (hv : PE X value tv) (hs : swapsWith value (some (.Subscript o i pos')) pos.line X.env = pure false) :
    PS X (.Assign [.Subscript o i pos'] value pos) (sNPut X.prog X.w td ty tv) := by
  (refine ⟨fun pins s σ H D I h => ?_⟩)
  refine wpAny_Assign_Subscript (thn (hv.run pins s σ H _ I h) fun r s1 ⟨v, H1, I1, rv, q1⟩ => thn (ho.run pins s1 σ H1 _ I1 q1) fun u s2 ⟨x, H2, I2, rx, q2⟩ => thn (hi.run pins s2 σ H2 _ I2 q2) fun iv s3 ⟨y, H3, I3, ry, L, kvs, b, q, ex, n3, ey, hb, hl, q3⟩ => ?_) hs
  subst ex
  subst ey
  obtain rfl : u = Value.ref L := rx
  obtain rfl : iv = Value.ref b := ry
  exact n_put hu I3 n3 hb hl rv fun xs s4 I4 n4 => ⟨σ, _, I4, q3 xs n4⟩
end
end IR
end
section
set_option Elab.async false
set_option linter.all false
set_option maxRecDepth 100000
set_option maxHeartbeats 4100000
namespace IR
open L2 PySem PySem.Spec PyProof.Rows
/-! ## `_law_two_lists`: its def, by its meaning -/
section
variable {c : Cg} {E0 : XK} {G H0 Gi Hi Hj : Hp} {σ : L2.St} {ρ : Env} {ds : DS} {Q : VK}
theorem seqG {α β : Type} {R1 : Hp → Hp → Hp → β → α → Prop} {o : DS → Out α} {f : α → DS → Out D} {R : β → Hp → Prop} (sp : Stp c.toCf G H0 Gi Hi) (e : EI c.toCf Gi σ ρ Hi ds) (p : Post c E0 .rep G H0 ((o ds).bind f) Q)
    (kk : ∀ G1 H1 v a ds1, On G1 H1 → Stp c.toCf Gi Hi G1 H1 → EI c.toCf G1 σ ρ H1 ds1 → Stp c.toCf G H0 G1 H1 → R1 Hi G1 H1 v a → Post c E0 .rep G H0 (f a ds1) Q → R v H1) : PostG c E0 R1 Gi Hi (o ds) R := by
  cases q : o ds with
  | no => rw [q] at p; exact p
  | er n d dz =>
    rw [q] at p
    exact fun G' H' dx v n s t hx r => p G' H' dx v n (sp.trans e.st s) t hx r
  | ok d dz =>
    rw [q] at p
    exact fun G1 H1 v n s t r => kk G1 H1 v d dz n s (e.step n s t) (sp.trans e.st s) r p
theorem EI.weak {ρ' : Env} {c : Cf} (e : EI c Gi σ ρ Hi ds) (hl : ρ'.length = ρ.length) (h : ∀ (j : Nat) (x : Slot), ρ'[j]? = some x → x = Slot.no ∨ ρ[j]? = some x) : EI c Gi σ ρ' Hi ds :=
  ⟨hl.trans e.ln, e.on, e.tn, e.st, fun j x hx => by
    rcases h j x hx with rfl | h
    · trivial
    · exact e.sl j x h⟩
theorem EI.upN {c : Cf} {L : Addr} {o : HO} (e : EI c Gi σ ρ Hi ds) (hg : Gi L = none) (ht : ¬ inT c L) (no : ∀ (j : Nat) (d : D), ρ[j]? ≠ some (Slot.own d)) : EI c Gi σ ρ (upd Hi L o) ds := by
  refine ⟨e.ln, fun a u ha => ?_, e.tn, fun s i he => ?_, fun j x hx => ?_⟩
  · have ne : a ≠ L := fun z => by rw [z, hg] at ha; cases ha
    rw [upd_ne ne]; exact e.on a u ha
  · obtain ⟨k1, k2, k3⟩ := e.st s i he
    have ns : s ≠ L := fun z => ht ⟨s, i, he, .inl z.symm⟩
    have ni : i ≠ L := fun z => ht ⟨s, i, he, .inr z.symm⟩
    exact ⟨k1, by rw [upd_ne ns]; exact k2, by rw [upd_ne ni]; exact k3⟩
  · cases x with
    | no => trivial
    | sh d => exact e.sl j _ hx
    | own d => exact absurd hx (no j d)
theorem Stp.upN {c : Cf} {L : Addr} {o : HO} (s : Stp c G H0 Gi Hi) (h : H0 L = none) : Stp c G H0 Gi (upd Hi L o) :=
  ⟨s.ex, fun a ha ht => by
    have ne : a ≠ L := fun z => ha (by rw [z]; exact h)
    rw [upd_ne ne]; exact s.kp a ha ht, s.nw⟩
theorem tups_keep {c : Cf} (s : Stp c Gi Hi G Hj) (st : StO c Hi ds) {b : Addr} {ys : List V} (h : Hi b = some (.tup ys)) : Hj b = some (.tup ys) := by
  have nt : ¬ inT c b := fun ⟨a, i, e, z⟩ => by
    obtain ⟨_, k2, k3⟩ := st a i e
    rcases z with rfl | rfl
    · rw [k2] at h; cases h
    · rw [k3] at h; cases h
  rw [s.kp b (by rw [h]; simp) nt]; exact h
end
abbrev NVl (c : Cf) (G : Hp) : List (Nky × V) → List (Nky × D) → Prop := Paired fun p q => p.1 = q.1 ∧ Rep c G p.2 q.2
section
variable {c : Cf} {G G' : Hp}
theorem NVl.mono {vs : List (Nky × V)} {kvs : List (Nky × D)} (r : NVl c G vs kvs) (s : Sub G G') : NVl c G' vs kvs := Paired.mapP r fun _ _ z => ⟨z.1, z.2.mono s⟩
theorem NVl.get {vs : List (Nky × V)} {kvs : List (Nky × D)} (r : NVl c G vs kvs) (k : Nky) {x : V} {d : D} (rx : Rep c G x d) : Rep c G ((valV vs k).getD x) ((nkget kvs k).getD d) := by
  induction r with
  | nil => exact rx
  | @cons p q ps qs h _ ih =>
    by_cases e : p.1 = k
    · rw [valV_pos e, show nkget (q :: qs) k = some q.2 by simp [nkget, List.find?_cons, h.1.symm.trans e]]
      exact h.2
    · rw [valV_neg e, show nkget (q :: qs) k = nkget qs k by simp [nkget, List.find?_cons, show ¬ q.1 = k from fun z => e (h.1.trans z)]]
      exact ih
theorem NVl.any {vs : List (Nky × V)} {kvs : List (Nky × D)} (r : NVl c G vs kvs) (k : Nky) : (vs.any fun p => decide (p.1 = k)) = kvs.any fun p => decide (p.1 = k) := by
  induction r with
  | nil => rfl
  | cons h _ ih => rw [List.any_cons, List.any_cons, ih, h.1]
theorem NVl.put {vs : List (Nky × V)} {kvs : List (Nky × D)} (r : NVl c G vs kvs) (k : Nky) {x : V} {d : D} (rx : Rep c G x d) : NVl c G (putK vs k x) (nkput kvs k d) := by
  unfold putK nkput
  rw [r.any k]
  split
  · rename_i hq
    clear hq
    induction r with
    | nil => exact .nil
    | @cons p q ps qs h _ ih =>
      (rw [List.map_cons, List.map_cons])
      refine .cons ?_ ih
      by_cases e : p.1 = k
      · rw [if_pos e, if_pos (h.1.symm.trans e)]; exact ⟨h.1, rx⟩
      · rw [if_neg e, if_neg (fun z => e (h.1.trans z))]; exact h
  · exact Paired.snoc r ⟨rfl, rx⟩
theorem NVl.len {vs : List (Nky × V)} {kvs : List (Nky × D)} (r : NVl c G vs kvs) : vs.length = kvs.length := Paired.length r
theorem strs_rep : ∀ {ws : List D} {ys : List V} {zs : List Str}, Reps c G ys ws → strsOf ws = some zs → ys = zs.map V.str
  | [], _, zs, r, h => by
    cases r
    cases h
    rfl
  | d :: ws, _, zs, r, h => by
    cases r with
    | cons r1 r2 =>
      cases d with
      | str x =>
        rw [strsOf, Option.map_eq_some_iff] at h
        obtain ⟨us, h1, rfl⟩ := h
        cases r1
        rw [strs_rep r2 h1]
        rfl
      | _ => simp [strsOf] at h
end
section
variable {Γ : Gm} {c : Cg} {tb : Nat → Fn} {ar : Nat → Nat} {P : Program} {w : World} {K : PySem.W.Frag} {mg : Str → Option Value} {base : Heap}
def tlGo (Γ : Gm) (cf : Nat → List D → DS → Out D) (fp : Nat) (raw many : D) (rest : List D) (ds : DS) : Option Bool → Out D
  | some true => .ok (.bl true) ds
  | some false => tlOnes Γ cf fp raw many rest ds
  | none => .no
theorem tlOnes_cons {Γ : Gm} {cf : Nat → List D → DS → Out D} {fp : Nat} {raw many one : D} {r : List D} {ds : DS} : tlOnes Γ cf fp raw many (one :: r) ds = (itM Γ cf (.l (.call fp (.cons (.v 0) (.cons (.v 2) (.cons (.v 1) .nil))))) [.sh raw, .sh many, .sh one, .no, .no, .no, .no, .no] ds).bind fun items s => tlGo Γ cf fp raw many r s (tlIn items []) := by
  rw [tlOnes]
  rfl
theorem tlIn_cons (d : D) (r : List D) (kvs : List (Nky × D)) : tlIn (d :: r) kvs = none ∨ ∃ ps ws h zs e, d = .tup [.lst ps, .lst ws, .str h] ∧ strsOf ws = some zs ∧ kvs.length < lim ∧ eqD ((nkget kvs (zs, h)).getD (.lst ps)) (.lst ps) = some e ∧
    tlIn (d :: r) kvs = if e = true then tlIn r (nkput kvs (zs, h) (.lst ps)) else some true := by
  by_cases hd : ∃ ps ws h, d = .tup [.lst ps, .lst ws, .str h]
  · obtain ⟨ps, ws, h, rfl⟩ := hd
    cases hs : strsOf ws with
    | none => left; rw [tlIn, hs]
    | some zs =>
      by_cases hc : zs.length < 1000 ∧ kvs.length < lim
      · cases he : eqD ((nkget kvs (zs, h)).getD (.lst ps)) (.lst ps) with
        | none => left; rw [tlIn, hs]; dsimp only; rw [if_pos hc, he]
        | some e =>
          right
          refine ⟨ps, ws, h, zs, e, rfl, hs, hc.2, he, ?_⟩
          rw [tlIn, hs]
          dsimp only
          rw [if_pos hc, he]
          cases e <;> rfl
      · left; rw [tlIn, hs]; dsimp only; rw [if_neg hc]
  · left
    unfold tlIn
    split
    · rename_i heq; cases heq
    · rename_i heq
      cases heq
      exact (hd ⟨_, _, _, rfl⟩).elim
    · rfl
theorem tl_fn {x qual : Str} {params : Arguments} {body : List Stmt} {scope : Scope} {dvs : List V} {kws : List (Str × V)} {a : Addr} {fd : FuncData} {N ps : List Str} {f fp k : Nat}
    {tg1 it1 tg2 it2 yk : PySem.Expr} {nL nL1 nL2 nK nK1 nK2 nP nP1 nP2 : Str} {j1 j2 : Nat} {pL pd pa pK pk2 p1 p2 p3 p4 p5 p6 p7 pr pif q1 q2 q3 q4 q5 pf1 pf2 pr2 c1 c2 : Pos}
    (F : FunD K x qual params body scope dvs kws a fd) (S0 : FnScope N ps scope) (hps : ps.length = 2) (hNl : N.length = 8)
    (hb : body = [.For tg1 it1 [.Assign [.Name nL pL] (.Dict [] [] pd) pa, .For tg2 it2 [.Assign [.Name nK pK] yk pk2,
      .If (.Compare (.Call (.Attribute (.Name nL1 p1) "get" p2) [.Name nK1 p3, .Name nP1 p4] [] p5) [.NotEq] [.Name nP2 p6] p7) [.Return (some (.Constant (.bool true) j1 c1)) pr] [] pif,
      .Assign [.Subscript (.Name nL2 q1) (.Name nK2 q2) q3] (.Name nP q4) q5] [] pf2] [] pf1, .Return (some (.Constant (.bool false) j2 c2)) pr2])
    (hi1 : chkI Γ N scope true (.l (.sub (.rv 0) (.c (.int 0)))) it1 tg1 = true) (hp1 : ptB N scope (.n 2) tg1 = true)
    (hi2 : chkI Γ N scope true (.l (.call fp (.cons (.v 0) (.cons (.v 2) (.cons (.v 1) .nil))))) it2 tg2 = true) (hp2 : ptB N scope (.t (.cons (.n 4) (.cons (.n 5) (.cons (.n 6) .nil)))) tg2 = true)
    (hyk : chk Γ N scope (.tup (.cons (.bi .tuple (.cons (.rv 5) .nil)) (.cons (.v 6) .nil))) yk = true) (hyc : notComp yk = true)
    (hL : (decide (N[3]? = some nL) && locB scope nL) = true) (hK : (decide (N[7]? = some nK) && locB scope nK) = true)
    (hL1 : (decide (N[3]? = some nL1) && visB scope nL1 && okN nL1) = true) (hL2 : (decide (N[3]? = some nL2) && visB scope nL2 && okN nL2) = true)
    (hK1 : (decide (N[7]? = some nK1) && visB scope nK1 && okN nK1) = true) (hK2 : (decide (N[7]? = some nK2) && visB scope nK2 && okN nK2) = true)
    (hP : (decide (N[4]? = some nP) && visB scope nP && okN nP) = true) (hP1 : (decide (N[4]? = some nP1) && visB scope nP1 && okN nP1) = true) (hP2 : (decide (N[4]? = some nP2) && visB scope nP2 && okN nP2) = true)
    (hline : (p2.endLine == p5.line) = true) (hfr : Γ.fr f = false) (g : GX Γ c (callM Γ tb k) ar k P w K mg base) :
    FnOk P w K mg base (L2.CX P w) (k + 1 + 1) a fd ps (spF Γ c (fun _ as ds => if as.length = 2 then tlM Γ (callM Γ tb k) fp as ds else .no) f 2) := by
  refine F.ok S0 (fun vs H Q E h => ?_) fun cdv A outer s H vs Q E hr h => ?_
  · obtain ⟨G, as, ds, _, _, _, _, hl, _⟩ := h
    rw [hl, hps]
  · obtain ⟨G, as, ds, n, tn, st, rs, hl, p⟩ := h
    have p : Post c E .rep G H (if as.length = 2 then tlM Γ (callM Γ tb k) fp as ds else .no) Q := by
      have p : Post c E (if Γ.fr f then .fr else .rep) G H (if as.length = 2 then tlM Γ (callM Γ tb k) fp as ds else .no) Q := p
      rw [hfr] at p
      exact p
    by_cases hal : as.length = 2
    rotate_left
    · rw [if_neg hal] at p; exact p.elim
    rw [if_pos hal] at p
    match as, rs, hal with
    | [raw, many], .cons (v := vr) rr (.cons (v := vm) rm .nil), _ =>
    have hX := st_cx (Γ := Γ) (c := c) (qual := qual) (a := a) (cdv := cdv) (outer := outer) (s := s) (H := H) (E := E) S0 hr g
    have lo : LocOk scope (cxOf (L2.CX P w) P w K mg base N qual scope a cdv A outer s H E) := fun x hx => ⟨loc_of hX.toCxOk hx, .inl (hX.fs x)⟩
    subst hb
    simp only [Bool.and_eq_true] at hL hK
    have hu : (cxOf (L2.CX P w) P w K mg base N qual scope a cdv A outer s H E).A.units + 9 < cLine := by have := hX.room.un; omega
    obtain ⟨op, hop, huse⟩ := cmp_ok (cxOf (L2.CX P w) P w K mg base N qual scope a cdv A outer s H E) (by have := hX.room.un; omega) (o := .ne) (op := .NotEq) rfl
    have m1 : M2 (cxOf (L2.CX P w) P w K mg base N qual scope a cdv A outer s H E) (.Name nL1 p1) "get" p2 (.Name nK1 p3) (.Name nP1 p4) p5 := ⟨base_of rfl, by rw [star_cons rfl, star_cons rfl]; rfl, hline, by rw [star_cons rfl, star_cons rfl]; rfl⟩
    have I1 := fun ρ => s_It (ρ := ρ) (.l (.sub (.rv 0) (.c (.int 0)))) hX.toCxOk hi1
    have I2 := fun ρ => s_It (ρ := ρ) (.l (.call fp (.cons (.v 0) (.cons (.v 2) (.cons (.v 1) .nil))))) hX.toCxOk hi2
    have hN : (cxOf (L2.CX P w) P w K mg base N qual scope a cdv A outer s H E).N = N := rfl
    refine ⟨_, pss_cons (ps_for hX.po hX.calm (I1 [.sh raw, .sh many, .no, .no, .no, .no, .no, .no]).1 (pg_pt hX.hN hX.nd hX.calm lo (.n 2) hp1)
      (pss_cons (ps_set S0.nd (of_decide_eq_true hL.1) (loc_of hX.toCxOk hL.2) pe_nnew (sw_not rfl) (.inl (hX.fs nL)))
        (pss_one (ps_for hX.po hX.calm (pi_ex fun ρ => (I2 ρ).1) (pg_pt hX.hN hX.nd hX.calm lo (.t (.cons (.n 4) (.cons (.n 5) (.cons (.n 6) .nil)))) hp2)
          (pss_cons (ps_set S0.nd (of_decide_eq_true hK.1) (loc_of hX.toCxOk hK.2) (pe_ex fun ρ => (s_E (ρ := ρ) _ hX.toCxOk hyk).rep (by show Md.rep ≠ Md.rd; decide)) (sw_not hyc) (.inl (hX.fs nK)))
            (pss_cons (ps_if (pt_cmpR hop (pe_nget hu (var_of hX.toCxOk hL1) (var_of hX.toCxOk hK1) (var_of hX.toCxOk hP1) m1) (var_of hX.toCxOk hP2) (nomark _)) (pss_one (ps_ret pe_bl)) pss_nil)
              (pss_one (ps_nput hu (var_of hX.toCxOk hL2) (var_of hX.toCxOk hK2) (var_of hX.toCxOk hP) rfl))))
          (I2 []).2)))
      (I1 []).2) (pss_one (ps_ret pe_bl)), ?_⟩
    have hst : L2.start N [vr, vm] = [some vr, some vm, none, none, none, none, none, none] := by
      unfold L2.start
      simp [hNl]
    rw [hst]
    have ei0 : EI c.toCf G [some vr, some vm, none, none, none, none, none, none] [.sh raw, .sh many, .no, .no, .no, .no, .no, .no] H ds := by
      refine ⟨rfl, n, tn, st, fun j z hz => ?_⟩
      match j, hz with
      | 0, hz => cases hz; exact ⟨vr, rfl, rr⟩
      | 1, hz => cases hz; exact ⟨vm, rfl, rm⟩
      | 2, hz => cases hz; trivial
      | 3, hz => cases hz; trivial
      | 4, hz => cases hz; trivial
      | 5, hz => cases hz; trivial
      | 6, hz => cases hz; trivial
      | 7, hz => cases hz; trivial
      | j + 8, hz => simp at hz
    have p : Post c E .rep G H ((itM Γ (callM Γ tb k) (.l (.sub (.rv 0) (.c (.int 0)))) [.sh raw, .sh many, .no, .no, .no, .no, .no, .no] ds).bind fun ones s => tlOnes Γ (callM Γ tb k) fp raw many ones s) Q := p
    refine ⟨G, ds, ei0, seqG (Stp.refl _ _ _) ei0 p fun G1 H1 J items ds1 n1 s1 e1 sp1 r p1 => ?_⟩
    obtain ⟨Cd, jw, stab, cd⟩ := r
    refine ⟨fun i m σ' H' => ∃ G2 ds2, EI c.toCf G2 σ' [.sh raw, .sh many, .no, .no, .no, .no, .no, .no] H' ds2 ∧ Stp c.toCf G H G2 H' ∧ Sub G1 G2 ∧ m = items.length - i ∧ Post c E .rep G H (tlOnes Γ (callM Γ tb k) fp raw many (items.drop i) ds2) Q, ⟨_, G1, ds1, e1, sp1, Sub.refl _, rfl, p1⟩, ?_⟩
    rintro i m σ' H' ⟨G2, ds2, e2, sp2, sb, hm, p2⟩
    have cd2 : Cd G2 H' := stab G1 H1 G2 H' (fun _ => sb) (fun z => by cases z) cd
    by_cases hi : items.length ≤ i
    · left
      refine ⟨jw.stop i G2 H' e2.on cd2 hi, ?_⟩
      rw [List.drop_eq_nil_of_le hi] at p2
      exact p2 G2 H' (.bl false) e2.on sp2 e2.st (.bl false)
    · right
      have hi' : i < items.length := by omega
      have hd : items[i]? = some items[i] := List.getElem?_eq_getElem hi'
      have hdrop : items.drop i = items[i] :: items.drop (i + 1) := List.drop_eq_getElem_cons hi'
      generalize items[i] = d at hd hdrop
      rw [hdrop, tlOnes_cons] at p2
      refine ⟨jw.go i G2 H' d e2.on cd2 hd, fun σ3 H3 => ∃ G3 ds3, EI c.toCf G3 σ3 [.sh raw, .sh many, .no, .no, .no, .no, .no, .no] H3 ds3 ∧ Stp c.toCf G H G3 H3 ∧ Sub G1 G3 ∧ Post c E .rep G H (tlOnes Γ (callM Γ tb k) fp raw many (items.drop (i + 1)) ds3) Q, fun σ3 H3 z => ?_, fun x H3 hy => ?_⟩
      · obtain ⟨G3, ds3, a1, a2, a3, a4⟩ := z
        exact ⟨items.length - (i + 1), by omega, G3, ds3, a1, a2, a3, rfl, a4⟩
      · obtain ⟨G3, n3, s3, t3, rx⟩ := jw.yl i G2 H' x H3 d ds2 e2.on e2.tn e2.st cd2 hd hy
        have e3 := e2.step n3 s3 t3
        have sp3 := sp2.trans e2.st s3
        refine tG_wp (.n 2) e3 rx rfl fun σ4 _ e4 => ?_
        have e4 : EI c.toCf G3 σ4 [.sh raw, .sh many, .sh d, .no, .no, .no, .no, .no] H3 ds2 := e4
        refine fun L hL nL => ?_
        have hg : G3 L = none := e3.on.free hL
        have hT : ¬ inT c.toCf L := fun t => e3.st.there t hL
        have hH : H L = none := sp3.fresh e3.st hL
        have noown : ∀ (one : D) (j : Nat) (d' : D), ([.sh raw, .sh many, .sh one, .no, .no, .no, .no, .no] : Env)[j]? ≠ some (Slot.own d') := fun one j d' q => by
          match j, q with
          | 0, q => cases q
          | 1, q => cases q
          | 2, q => cases q
          | 3, q => cases q
          | 4, q => cases q
          | 5, q => cases q
          | 6, q => cases q
          | 7, q => cases q
          | j + 8, q => simp at q
        have e5 : EI c.toCf G3 (σ4.set 3 (some (.ref L))) [.sh raw, .sh many, .sh d, .no, .no, .no, .no, .no] (upd H3 L (nO P w L [])) ds2 := (e4.upN hg hT (noown d)).put (i := 3) (x := .no) fun _ => trivial
        have sp5 : Stp c.toCf G H G3 (upd H3 L (nO P w L [])) := sp3.upN hH
        refine ⟨_, G3, ds2, e5, seqG sp5 e5 p2 fun G6 H6 J2 items2 ds6 n6 s6 e6 sp6 r6 p6 => ?_⟩
        obtain ⟨Cd2, jw2, stab2, cd6⟩ := r6
        have nL6 : Nd P w H6 L [] := nL.keeps (s6.kp L (by rw [upd_same]; simp) hT) fun b ys h => tups_keep s6 e5.st h
        have hg6 : G6 L = none := s6.nw L (by rw [upd_same]; simp) hg
        have hs6 : (σ4.set 3 (some (V.ref L)))[3]? = some (some (V.ref L)) := by
          rw [List.getElem?_set_self]
          have := e4.ln
          simp at this
          omega
        refine ⟨fun i2 m2 σ' H' => ∃ G7 ds7 vs kvs, EI c.toCf G7 σ' [.sh raw, .sh many, .sh d, .no, .no, .no, .no, .no] H' ds7 ∧ Stp c.toCf G H G7 H' ∧ Sub G6 G7 ∧ m2 = items2.length - i2 ∧ σ'[3]? = some (some (.ref L)) ∧ G7 L = none ∧ Nd P w H' L vs ∧ NVl c.toCf G7 vs kvs ∧
          Post c E .rep G H (tlGo Γ (callM Γ tb k) fp raw many (items.drop (i + 1)) ds7 (tlIn (items2.drop i2) kvs)) Q, ⟨_, G6, ds6, [], [], e6, sp6, Sub.refl _, rfl, hs6, hg6, nL6, .nil, p6⟩, ?_⟩
        rintro i2 m2 σ7 H7 ⟨G7, ds7, vs, kvs, e7, sp7, sb7, hm2, hs7, hg7, nd7, nv7, p7⟩
        have cd7 : Cd2 G7 H7 := stab2 G6 H6 G7 H7 (fun _ => sb7) (fun z => by cases z) cd6
        have sub7 : Sub G1 G7 := ((sb.trans s3.ex).trans s6.ex).trans sb7
        by_cases hi2 : items2.length ≤ i2
        · left
          refine ⟨jw2.stop i2 G7 H7 e7.on cd7 hi2, ?_⟩
          rw [List.drop_eq_nil_of_le hi2] at p7
          refine ⟨G7, ds7, e7.weak rfl fun j z hz => ?_, sp7, sub7, p7⟩
          match j, hz with
          | 0, hz => exact .inr hz
          | 1, hz => exact .inr hz
          | 2, hz => cases hz; exact .inl rfl
          | j + 3, hz => exact .inr hz
        · right
          have hi2' : i2 < items2.length := by omega
          have hd2 : items2[i2]? = some items2[i2] := List.getElem?_eq_getElem hi2'
          have hdrop2 : items2.drop i2 = items2[i2] :: items2.drop (i2 + 1) := List.drop_eq_getElem_cons hi2'
          generalize items2[i2] = d2 at hd2 hdrop2
          rw [hdrop2] at p7
          refine ⟨jw2.go i2 G7 H7 d2 e7.on cd7 hd2, fun σ8 H8 => ∃ G8 ds8 vs kvs, EI c.toCf G8 σ8 [.sh raw, .sh many, .sh d, .no, .no, .no, .no, .no] H8 ds8 ∧ Stp c.toCf G H G8 H8 ∧ Sub G6 G8 ∧ σ8[3]? = some (some (.ref L)) ∧ G8 L = none ∧ Nd P w H8 L vs ∧ NVl c.toCf G8 vs kvs ∧
            Post c E .rep G H (tlGo Γ (callM Γ tb k) fp raw many (items.drop (i + 1)) ds8 (tlIn (items2.drop (i2 + 1)) kvs)) Q, fun σ8 H8 z => ?_, fun x2 H8 hy2 => ?_⟩
          · obtain ⟨G8, ds8, vs8, kvs8, a1, a2, a3, a4, a5, a6, a7, a8⟩ := z
            exact ⟨items2.length - (i2 + 1), by omega, G8, ds8, vs8, kvs8, a1, a2, a3, rfl, a4, a5, a6, a7, a8⟩
          · obtain ⟨G8, n8, s8, t8, rx8⟩ := jw2.yl i2 G7 H7 x2 H8 d2 ds7 e7.on e7.tn e7.st cd7 hd2 hy2
            have e8 := e7.step n8 s8 t8
            have sp8 := sp7.trans e7.st s8
            have there7 : H7 L ≠ none := by obtain ⟨xs, e, _⟩ := nd7.ex; rw [e]; simp
            have nd8 : Nd P w H8 L vs := nd7.keeps (s8.kp L there7 hT) fun b ys h => tups_keep s8 e7.st h
            have hg8 : G8 L = none := s8.nw L there7 hg7
            rcases tlIn_cons d2 (items2.drop (i2 + 1)) kvs with h0 | ⟨ps, ws, hh, zs, e, rfl, hz, hkl, he, hin⟩
            · rw [h0] at p7; exact p7.elim
            rw [hin] at p7
            refine tG_wp (.t (.cons (.n 4) (.cons (.n 5) (.cons (.n 6) .nil)))) e8 rx8 (ρ1 := [.sh raw, .sh many, .sh d, .no, .sh (.lst ps), .sh (.lst ws), .sh (.str hh), .no]) (by simp [asgP, asgP.asgPs]) fun σ9 ag e9 => ?_
            have hs9 : σ9[3]? = some (some (.ref L)) := (agree_at ag (by simp [Pt.slots])).trans hs7
            have hev : ev Γ (callM Γ tb k) (.tup (.cons (.bi .tuple (.cons (.rv 5) .nil)) (.cons (.v 6) .nil))) [.sh raw, .sh many, .sh d, .no, .sh (.lst ps), .sh (.lst ws), .sh (.str hh), .no] ds7 = .ok (.tup [.tup ws, .str hh]) ds7 := by
              simp only [ev, evs, List.getElem?_cons_succ, List.getElem?_cons_zero, bind_ok, biD, of_some]
              rfl
            refine ⟨_, G8, ds7, e9, ?_⟩
            rw [hev]
            intro G10 H10 v n10 s10 t10 r10
            have e10 := e9.step n10 s10 t10
            have sp10 := sp8.trans e8.st s10
            obtain ⟨b, rfl, hk⟩ : ∃ b, v = .ref b ∧ NkAt G10 b (zs, hh) := by
              have r10 : Rep c.toCf G10 v (.tup [.tup ws, .str hh]) := r10
              cases r10 with
              | @tup pb xs _ hb rb =>
                cases rb with
                | cons ra rb => cases rb with
                  | cons rc rb =>
                    cases rb
                    cases rc
                    cases ra with
                    | @tup pa ys _ ha rys => exact ⟨pb, rfl, pa, hb, by rw [ha, strs_rep rys hz]⟩
            have hkH : NkAt H10 b (zs, hh) := by
              obtain ⟨b2, k1, k2⟩ := hk
              exact ⟨b2, on_at n10 k1 (fun z => z), on_at n10 k2 (fun z => z)⟩
            have there8 : H8 L ≠ none := by obtain ⟨xs, e, _⟩ := nd8.ex; rw [e]; simp
            have nd10 : Nd P w H10 L vs := nd8.keeps (s10.kp L there8 hT) fun b ys h => tups_keep s10 e8.st h
            have hg10 : G10 L = none := s10.nw L there8 hg8
            have nv10 := (nv7.mono s8.ex).mono s10.ex
            have e11 := e10.sh (i := 7) r10
            have ln9 : σ9.length = 8 := by have := e9.ln; simpa using this.symm
            have hs11 : (σ9.set 7 (some (V.ref b)))[3]? = some (some (V.ref L)) := by rw [List.getElem?_set_ne (by decide)]; exact hs9
            have hs7' : (σ9.set 7 (some (V.ref b)))[7]? = some (some (V.ref b)) := by rw [List.getElem?_set_self (by omega)]
            obtain ⟨vp, hv4, rp⟩ := e11.sl 4 _ rfl
            refine ⟨.ref L, hs11, L, vs, rfl, nd10, .ref b, hs7', vp, hv4, b, (zs, hh), nd10, rfl, hkH, vp, hv4, ?_⟩
            refine huse (H0 := H10) n10 (.inl (nv10.get (zs, hh) rp)) (.inl rp) (b := !e) (by simp [cmpD, he]) ⟨!e, rfl, ?_⟩
            cases e with
            | false => exact p7 G10 H10 (.bl true) n10 sp10 t10 (.bl true)
            | true =>
              refine ⟨vp, hv4, .ref L, hs11, .ref b, hs7', L, vs, b, (zs, hh), rfl, nd10, rfl, hkH, ?_, fun xs nd11 => ?_⟩
              · rw [nv10.len, sizeLine_eq]; exact hkl
              · refine ⟨G10, ds7, putK vs (zs, hh) vp, nkput kvs (zs, hh) (.lst ps), ?_, sp10.upN hH, (sb7.trans s8.ex).trans s10.ex, hs11, hg10, nd11, nv10.put (zs, hh) rp, p7⟩
                refine (e11.weak (ρ' := [.sh raw, .sh many, .sh d, .no, .no, .no, .no, .no]) rfl fun j z hz => ?_).upN hg10 hT (noown d)
                match j, hz with
                | 0, hz => exact .inr hz
                | 1, hz => exact .inr hz
                | 2, hz => exact .inr hz
                | 3, hz => exact .inr hz
                | 4, hz => cases hz; exact .inl rfl
                | 5, hz => cases hz; exact .inl rfl
                | 6, hz => cases hz; exact .inl rfl
                | 7, hz => cases hz; exact .inl rfl
                | j + 8, hz => simp at hz
end
end IR
end
section
set_option Elab.async false
set_option linter.all false
set_option maxRecDepth 100000
set_option maxHeartbeats 0
namespace K94
open L2 IR PySem PySem.Spec PyProof.Rows
def top (i : Nat) : Stmt := PySem.Challenge.pw_pressrecord_k94_whole_buttons_read_from.main.body.getD i (.Pass ⟨0, 0, 0, 0⟩)
abbrev s0 : Stmt := top 2
abbrev s1 : Stmt := top 3
abbrev s2 : Stmt := top 4
abbrev s3 : Stmt := top 5
abbrev s4 : Stmt := top 6
abbrev s5 : Stmt := inClass (top 10) 0
abbrev s6 : Stmt := inClass (top 11) 0
abbrev s7 : Stmt := inClass (top 12) 0
abbrev s8 : Stmt := inClass (top 13) 0
abbrev s9 : Stmt := inClass (top 14) 0
abbrev s10 : Stmt := inClass (top 15) 0
abbrev s11 : Stmt := top 17
abbrev s12 : Stmt := top 18
abbrev s13 : Stmt := top 19
abbrev s14 : Stmt := top 20
abbrev s15 : Stmt := inClass (top 21) 0
abbrev s16 : Stmt := inClass (top 21) 1
abbrev s17 : Stmt := inClass (top 21) 2
abbrev s18 : Stmt := inClass (top 21) 3
abbrev s19 : Stmt := inClass (top 21) 4
abbrev s20 : Stmt := inClass (top 21) 5
abbrev s21 : Stmt := top 22
abbrev s22 : Stmt := top 23
abbrev s23 : Stmt := top 24
abbrev s24 : Stmt := top 26
abbrev s25 : Stmt := top 27
abbrev s26 : Stmt := top 28
abbrev s27 : Stmt := top 29
abbrev s28 : Stmt := top 30
abbrev s29 : Stmt := top 31
abbrev s30 : Stmt := top 33
abbrev s31 : Stmt := top 34
abbrev s32 : Stmt := top 36
abbrev s33 : Stmt := top 37
abbrev s34 : Stmt := top 38
abbrev s35 : Stmt := top 40
abbrev s36 : Stmt := top 41
abbrev s37 : Stmt := top 42
abbrev s38 : Stmt := top 43
abbrev s39 : Stmt := top 44
abbrev s40 : Stmt := top 45
abbrev s41 : Stmt := top 47
abbrev s42 : Stmt := top 48
abbrev s43 : Stmt := top 49
abbrev s44 : Stmt := top 50
abbrev s45 : Stmt := top 51
abbrev s46 : Stmt := top 52
abbrev s47 : Stmt := top 53
abbrev s48 : Stmt := top 54
abbrev s49 : Stmt := top 55
abbrev s50 : Stmt := top 56
abbrev s51 : Stmt := top 57
abbrev s52 : Stmt := top 58
abbrev s53 : Stmt := top 59
abbrev s54 : Stmt := top 60
abbrev s55 : Stmt := top 61
abbrev s56 : Stmt := top 62
abbrev s57 : Stmt := top 63
abbrev s58 : Stmt := top 64
def fnT : List (Option Str) := [some ("is_list" : Str), some ("is_row" : Str), some ("is_text" : Str), some ("is_letters" : Str), some ("is_word" : Str), none, none, none, none, none, none, some ("wrong_names" : Str), some ("is_one_of" : Str), some ("is_row_in" : Str), some ("wrong_rows" : Str), none, none, none, none, none, none, some ("need_box" : Str), some ("check_state" : Str), some ("need_state" : Str), some ("are_presses" : Str), some ("check_presses" : Str), some ("need_presses" : Str), some ("played" : Str), some ("shown" : Str), some ("after" : Str), some ("pair_of" : Str), some ("all_pairs" : Str), some ("first_twins" : Str), some ("next_twins" : Str), some ("lossless_answer" : Str), some ("pairs_behind" : Str), some ("first_pairs" : Str), some ("met_pairs" : Str), some ("peeled" : Str), some ("ranked" : Str), some ("least_delay" : Str), some ("_law_start" : Str), some ("_law_pick" : Str), some ("_law_between" : Str), some ("_law_one" : Str), some ("_law_mixed" : Str), some ("_law_same" : Str), some ("_law_copy" : Str), some ("_law_is_number" : Str), some ("_law_free_word" : Str), some ("_law_words" : Str), some ("_law_box_of" : Str), some ("_law_nexts" : Str), some ("_law_draw_box" : Str), some ("_law_sorted_rows" : Str), some ("_law_all_presses" : Str), some ("_law_two_firsts" : Str), some ("_law_two_lists" : Str), some ("law" : Str)]
def mtT : List (Option (Nat × Str)) := [none, none, none, none, none, none, none, none, none, none, none, none, none, none, none, none, some (7, ("states" : Str)), some (7, ("buttons" : Str)), some (7, ("looked_up" : Str)), some (7, ("rows" : Str)), some (7, ("__eq__" : Str)), none, none, none, none, none, none, none, none, none, none, none, none, none, none, none, none, none, none, none, none, none, none, none, none, none, none, none, none, none, none, none, none, none, none, none, none, none, none]
def flT : List Bool := [true, true, true, true, true, false, false, false, false, false, false, true, true, true, true, false, false, false, false, false, false, true, true, true, true, true, true, false, false, false, false, false, false, false, false, false, false, false, false, false, true, false, true, true, false, false, true, false, true, true, false, false, false, false, false, false, true, true, false]
def frT : List Bool := [false, false, false, false, false, false, false, false, false, false, false, false, false, false, false, false, true, true, false, true, false, false, false, false, false, false, false, false, false, false, false, true, true, true, false, true, true, true, false, false, false, false, false, false, false, true, false, false, false, false, true, false, true, true, true, false, false, false, false]
def clT : List (Option Str) := [none, none, none, none, none, none, none, some ("Box" : Str)]
def nwT : List (Option Nat) := [none, none, none, none, none, none, none, none, none, none, none, none, none, none, none, some 7, none, none, none, none, none, none, none, none, none, none, none, none, none, none, none, none, none, none, none, none, none, none, none, none, none, none, none, none, none, none, none, none, none, none, none, none, none, none, none, none, none, none, none]
def Γ : Gm where
  fn f := (fnT[f]?).getD none
  mt f := (mtT[f]?).getD none
  fl f := (flT[f]?).getD false
  fr f := (frT[f]?).getD false
  cls f := (clT[f]?).getD none
  err _ := none
  gs := [("LETTERS", "abcdefghijklmnopqrstuvwxyz")]
  free := ["len", "isinstance", "list", "tuple", "all", "any", "max", "abs", "int", "str", "range", "enumerate", "zip", "dict", "bool"]
  cat k := (match k with | 7 => ["_states", "_buttons", "_table"] | _ => [])
  nw f := (nwT[f]?).getD none
def N0 : List Str := ["thing"]
def f0 : S := .seq (.ret (.isi (.rv 0) [.b "list", .b "tuple"])) (.skip)
def a0 : List Str := ["thing"]
def N1 : List Str := ["thing", "many"]
def f1 : S := .seq (.ret (.and (.call 0 (.cons (.rv 0) .nil)) (.cmp .eq (.bi .len (.cons (.rv 0) .nil)) (.rv 1)))) (.skip)
def a1 : List Str := ["thing", "many"]
def N2 : List Str := ["thing"]
def f2 : S := .seq (.ret (.isi (.rv 0) [.b "str"])) (.skip)
def a2 : List Str := ["thing"]
def N3 : List Str := ["thing", "sign"]
def e3_0 : E := (.cmp .isin (.rv 1) (.g "LETTERS" "abcdefghijklmnopqrstuvwxyz"))
@[simp] theorem e3_0_nop : E.isNop e3_0 = false := rfl
def f3 : S := .seq (.ret (.and (.call 2 (.cons (.rv 0) .nil)) (.and (.cmp .gt (.bi .len (.cons (.rv 0) .nil)) (.c (.int 0))) (.bi .all (.cons (.lc [1] e3_0 (.n 1) (.s (.rv 0)) .nop) .nil))))) (.skip)
def a3 : List Str := ["thing"]
def N4 : List Str := ["thing"]
def f4 : S := .seq (.ret (.and (.call 3 (.cons (.rv 0) .nil)) (.cmp .le (.bi .len (.cons (.rv 0) .nil)) (.c (.int 8))))) (.skip)
def a4 : List Str := ["thing"]
def N11 : List Str := ["names", "index", "name"]
def b11_0 : S := (.seq (.if_ (.or (.not (.call 4 (.cons (.rv 2) .nil))) (.cmp .isin (.rv 2) (.bi .list (.cons (.sl (.rv 0) .nop (.rv 1)) .nil)))) (.seq (.ret (.rv 1)) (.skip)) (.skip)) (.skip))
def t11_1 : S := .seq (.ret (.c .non)) (.skip)
def f11 : S := .seq (.if_ (.or (.not (.call 0 (.cons (.rv 0) .nil))) (.cmp .eq (.bi .len (.cons (.rv 0) .nil)) (.c (.int 0)))) (.seq (.ret (.c (.int 0))) (.skip)) (.skip)) (.seq (.for_ (.t (.cons (.n 1) (.cons (.n 2) .nil))) (.en (.v 0)) b11_0) (t11_1))
def a11 : List Str := ["names"]
def N12 : List Str := ["names", "thing"]
def f12 : S := .seq (.ret (.and (.call 2 (.cons (.rv 1) .nil)) (.cmp .isin (.rv 1) (.rv 0)))) (.skip)
def a12 : List Str := ["names", "thing"]
def N13 : List Str := ["states", "buttons", "thing"]
def f13 : S := .seq (.if_ (.or (.not (.call 1 (.cons (.rv 2) (.cons (.c (.int 4)) .nil)))) (.or (.not (.call 12 (.cons (.rv 0) (.cons (.sub (.rv 2) (.c (.int 0))) .nil)))) (.not (.call 12 (.cons (.rv 1) (.cons (.sub (.rv 2) (.c (.int 1))) .nil)))))) (.seq (.ret (.c (.bl false))) (.skip)) (.skip)) (.seq (.ret (.and (.call 4 (.cons (.sub (.rv 2) (.c (.int 2))) .nil)) (.call 12 (.cons (.rv 0) (.cons (.sub (.rv 2) (.c (.int 3))) .nil))))) (.skip))
def a13 : List Str := ["states", "buttons", "thing"]
def N14 : List Str := ["states", "buttons", "rows", "seen", "index", "row"]
def b14_0 : S := (.seq (.if_ (.or (.not (.call 13 (.cons (.rv 0) (.cons (.rv 1) (.cons (.rv 5) .nil))))) (.cmp .isin (.tup (.cons (.sub (.rv 5) (.c (.int 0))) (.cons (.sub (.rv 5) (.c (.int 1))) .nil))) (.rv 3))) (.seq (.ret (.rv 4)) (.skip)) (.skip)) (.seq (.seti 3 (.tup (.cons (.sub (.rv 5) (.c (.int 0))) (.cons (.sub (.rv 5) (.c (.int 1))) .nil))) (.c (.bl true))) (.skip)))
def t14_1 : S := .seq (.ret (.c .non)) (.skip)
def f14 : S := .seq (.if_ (.not (.call 0 (.cons (.rv 2) .nil))) (.seq (.ret (.c (.int 0))) (.skip)) (.skip)) (.seq (.asg 3 (.dnew true)) (.seq (.for_ (.t (.cons (.n 4) (.cons (.n 5) .nil))) (.en (.v 2)) b14_0) (t14_1)))
def a14 : List Str := ["states", "buttons", "rows"]
def N16 : List Str := ["self"]
def f16 : S := .seq (.ret (.bi .list (.cons (.fld (.rv 0) "_states") .nil))) (.skip)
def a16 : List Str := ["self"]
def N17 : List Str := ["self"]
def f17 : S := .seq (.ret (.bi .list (.cons (.fld (.rv 0) "_buttons") .nil))) (.skip)
def a17 : List Str := ["self"]
def N18 : List Str := ["self", "state", "button"]
def f18 : S := .seq (.ret (.get1 (.fld (.rv 0) "_table") (.tup (.cons (.v 1) (.cons (.v 2) .nil))))) (.skip)
def a18 : List Str := ["self", "state", "button"]
def N19 : List Str := ["self", "found", "state", "button", "shown", "following"]
def b19_0 : S := (.seq (.if_ (.cmp .isin (.tup (.cons (.v 2) (.cons (.v 3) .nil))) (.fld (.rv 0) "_table")) (.seq (.unp (.t (.cons (.n 4) (.cons (.n 5) .nil))) (.sub (.fld (.rv 0) "_table") (.tup (.cons (.v 2) (.cons (.v 3) .nil))))) (.seq (.app 1 (.tup (.cons (.v 2) (.cons (.v 3) (.cons (.v 4) (.cons (.v 5) .nil)))))) (.skip))) (.skip)) (.skip))
def b19_1 : S := (.seq (.for_ (.n 3) (.l (.fld (.rv 0) "_buttons")) b19_0) (.skip))
def t19_2 : S := .seq (.ret (.rv 1)) (.skip)
def f19 : S := .seq (.asg 1 (.lst .nil)) (.seq (.for_ (.n 2) (.l (.fld (.rv 0) "_states")) b19_1) (t19_2))
def a19 : List Str := ["self"]
def N20 : List Str := ["self", "other"]
def f20 : S := .seq (.if_ (.not (.isi (.rv 1) [.c 7])) (.seq (.ret (.c (.bl false))) (.skip)) (.skip)) (.seq (.if_ (.or (.cmp .ne (.fld (.rv 0) "_states") (.mth 16 (.rv 1) .nil)) (.cmp .ne (.fld (.rv 0) "_buttons") (.mth 17 (.rv 1) .nil))) (.seq (.ret (.c (.bl false))) (.skip)) (.skip)) (.seq (.ret (.cmp .eq (.mth 19 (.rv 0) .nil) (.mth 19 (.rv 1) .nil))) (.skip)))
def a20 : List Str := ["self", "other"]
def N21 : List Str := ["box"]
def f21 : S := .seq (.if_ (.not (.isi (.rv 0) [.c 7])) (.seq (.bad) (.skip)) (.skip)) (.skip)
def a21 : List Str := ["box"]
def N22 : List Str := ["box", "state"]
def f22 : S := .seq (.if_ (.not (.call 12 (.cons (.mth 16 (.rv 0) .nil) (.cons (.rv 1) .nil)))) (.seq (.bad) (.skip)) (.skip)) (.skip)
def a22 : List Str := ["box", "state"]
def N23 : List Str := ["box", "state"]
def f23 : S := .seq (.ex (.call 21 (.cons (.rv 0) .nil))) (.seq (.ex (.call 22 (.cons (.rv 0) (.cons (.rv 1) .nil)))) (.skip))
def a23 : List Str := ["box", "state"]
def N24 : List Str := ["box", "thing", "button"]
def e24_0 : E := (.call 12 (.cons (.mth 17 (.rv 0) .nil) (.cons (.rv 2) .nil)))
@[simp] theorem e24_0_nop : E.isNop e24_0 = false := rfl
def f24 : S := .seq (.ret (.and (.call 0 (.cons (.rv 1) .nil)) (.bi .all (.cons (.lc [2] e24_0 (.n 2) (.l (.rv 1)) .nop) .nil)))) (.skip)
def a24 : List Str := ["box", "thing"]
def N25 : List Str := ["box", "presses"]
def f25 : S := .seq (.if_ (.not (.call 24 (.cons (.rv 0) (.cons (.rv 1) .nil)))) (.seq (.bad) (.skip)) (.skip)) (.skip)
def a25 : List Str := ["box", "presses"]
def N26 : List Str := ["box", "state", "presses"]
def f26 : S := .seq (.ex (.call 23 (.cons (.rv 0) (.cons (.rv 1) .nil)))) (.seq (.ex (.call 25 (.cons (.rv 0) (.cons (.rv 2) .nil)))) (.skip))
def a26 : List Str := ["box", "state", "presses"]
def N27 : List Str := ["box", "state", "presses", "words", "button", "row"]
def b27_0 : S := (.seq (.asg 5 (.mth 18 (.rv 0) (.cons (.v 1) (.cons (.v 4) .nil)))) (.seq (.if_ (.isN (.rv 5)) (.seq (.ret (.c .non)) (.skip)) (.skip)) (.seq (.app 3 (.sub (.rv 5) (.c (.int 0)))) (.seq (.asg 1 (.sub (.rv 5) (.c (.int 1)))) (.skip)))))
def t27_1 : S := .seq (.frz [3]) (.seq (.ret (.tup (.cons (.v 3) (.cons (.v 1) .nil)))) (.skip))
def f27 : S := .seq (.asg 3 (.lst .nil)) (.seq (.for_ (.n 4) (.l (.v 2)) b27_0) (t27_1))
def a27 : List Str := ["box", "state", "presses"]
def N28 : List Str := ["box", "state", "presses", "end"]
def f28 : S := .seq (.ex (.call 26 (.cons (.rv 0) (.cons (.rv 1) (.cons (.rv 2) .nil))))) (.seq (.asg 3 (.call 27 (.cons (.v 0) (.cons (.v 1) (.cons (.v 2) .nil))))) (.seq (.ret (.ife (.isN (.rv 3)) (.c .non) (.sub (.rv 3) (.c (.int 0))))) (.skip)))
def a28 : List Str := ["box", "state", "presses"]
def N29 : List Str := ["box", "state", "presses", "end"]
def f29 : S := .seq (.ex (.call 26 (.cons (.rv 0) (.cons (.rv 1) (.cons (.rv 2) .nil))))) (.seq (.asg 3 (.call 27 (.cons (.v 0) (.cons (.v 1) (.cons (.v 2) .nil))))) (.seq (.ret (.ife (.isN (.rv 3)) (.c .non) (.sub (.rv 3) (.c (.int 1))))) (.skip)))
def a29 : List Str := ["box", "state", "presses"]
def N30 : List Str := ["box", "state", "other", "states"]
def f30 : S := .seq (.asg 3 (.mth 16 (.rv 0) .nil)) (.seq (.ret (.ife (.cmp .le (.index (.rv 3) (.rv 1)) (.index (.rv 3) (.rv 2))) (.tup (.cons (.v 1) (.cons (.v 2) .nil))) (.tup (.cons (.v 2) (.cons (.v 1) .nil))))) (.skip))
def a30 : List Str := ["box", "state", "other"]
def N31 : List Str := ["box", "states", "found", "place", "state", "other"]
def e31_0 : E := (.tup (.cons (.v 4) (.cons (.v 5) .nil)))
@[simp] theorem e31_0_nop : E.isNop e31_0 = false := rfl
def b31_1 : S := (.seq (.ext 2 (.lc [5] e31_0 (.n 5) (.l (.sl (.rv 1) (.bin .add (.rv 3) (.c (.int 1))) .nop)) .nop)) (.skip))
def t31_2 : S := .seq (.ret (.rv 2)) (.skip)
def f31 : S := .seq (.par [1, 2] (.cons (.mth 16 (.rv 0) .nil) (.cons (.lst .nil) .nil))) (.seq (.frz [1]) (.seq (.for_ (.t (.cons (.n 3) (.cons (.n 4) .nil))) (.en (.v 1)) b31_1) (t31_2)))
def a31 : List Str := ["box"]
def N32 : List Str := ["box", "found", "state", "there", "place", "one", "two", "button", "mine", "theirs"]
def e32_0 : E := (.v 7)
@[simp] theorem e32_0_nop : E.isNop e32_0 = false := rfl
def c32_1 : E := (.notN (.mth 18 (.rv 0) (.cons (.v 2) (.cons (.v 7) .nil))))
@[simp] theorem c32_1_nop : E.isNop c32_1 = false := rfl
def b32_2 : S := (.seq (.par [8, 9] (.cons (.mth 18 (.rv 0) (.cons (.v 2) (.cons (.v 5) .nil))) (.cons (.mth 18 (.rv 0) (.cons (.v 2) (.cons (.v 6) .nil))) .nil))) (.seq (.if_ (.cmp .eq (.sub (.rv 8) (.c (.int 0))) (.sub (.rv 9) (.c (.int 0)))) (.seq (.app 1 (.tup (.cons (.v 2) (.cons (.v 5) (.cons (.v 6) (.cons (.sub (.rv 8) (.c (.int 1))) (.cons (.sub (.rv 9) (.c (.int 1))) .nil))))))) (.skip)) (.skip)) (.skip)))
def b32_3 : S := (.seq (.for_ (.n 6) (.l (.sl (.rv 3) (.bin .add (.rv 4) (.c (.int 1))) .nop)) b32_2) (.skip))
def b32_4 : S := (.seq (.asg 3 (.lc [7] e32_0 (.n 7) (.l (.mth 17 (.rv 0) .nil)) c32_1)) (.seq (.frz [3]) (.seq (.for_ (.t (.cons (.n 4) (.cons (.n 5) .nil))) (.en (.v 3)) b32_3) (.skip))))
def t32_5 : S := .seq (.ret (.rv 1)) (.skip)
def f32 : S := .seq (.asg 1 (.lst .nil)) (.seq (.for_ (.n 2) (.l (.mth 16 (.rv 0) .nil)) b32_4) (t32_5))
def a32 : List Str := ["box"]
def N33 : List Str := ["box", "state", "other", "found", "one", "two", "mine", "theirs"]
def b33_0 : S := (.seq (.par [6, 7] (.cons (.mth 18 (.rv 0) (.cons (.v 1) (.cons (.v 4) .nil))) (.cons (.mth 18 (.rv 0) (.cons (.v 2) (.cons (.v 5) .nil))) .nil))) (.seq (.if_ (.and (.notN (.rv 6)) (.and (.notN (.rv 7)) (.cmp .eq (.sub (.rv 6) (.c (.int 0))) (.sub (.rv 7) (.c (.int 0)))))) (.seq (.app 3 (.tup (.cons (.v 4) (.cons (.v 5) (.cons (.sub (.rv 6) (.c (.int 1))) (.cons (.sub (.rv 7) (.c (.int 1))) .nil)))))) (.skip)) (.skip)) (.skip)))
def b33_1 : S := (.seq (.for_ (.n 5) (.l (.mth 17 (.rv 0) .nil)) b33_0) (.skip))
def t33_2 : S := .seq (.ret (.rv 3)) (.skip)
def f33 : S := .seq (.asg 3 (.lst .nil)) (.seq (.for_ (.n 4) (.l (.mth 17 (.rv 0) .nil)) b33_1) (t33_2))
def a33 : List Str := ["box", "state", "other"]
def N34 : List Str := ["box", "ways", "pairs", "at", "state", "one", "two", "mine", "theirs", "more", "other", "here", "there", "pair"]
def e34_0 : E := (.tup (.cons (.v 4) (.cons (.lst (.cons (.v 5) .nil)) (.cons (.lst (.cons (.v 6) .nil)) (.cons (.v 7) (.cons (.v 8) .nil))))))
@[simp] theorem e34_0_nop : E.isNop e34_0 = false := rfl
def w34_1 : E := (.cmp .lt (.rv 3) (.bi .len (.cons (.rv 1) .nil)))
@[simp] theorem w34_1_nop : E.isNop w34_1 = false := rfl
def b34_2 : S := (.seq (.app 1 (.tup (.cons (.v 4) (.cons (.bin .add (.rv 5) (.lst (.cons (.v 9) .nil))) (.cons (.bin .add (.rv 6) (.lst (.cons (.v 10) .nil))) (.cons (.v 11) (.cons (.v 12) .nil))))))) (.skip))
def b34_3 : S := (.seq (.unp (.t (.cons (.n 4) (.cons (.n 5) (.cons (.n 6) (.cons (.n 7) (.cons (.n 8) .nil)))))) (.sub (.rv 1) (.rv 3))) (.seq (.if_ (.cmp .eq (.rv 7) (.rv 8)) (.seq (.ret (.tup (.cons (.c (.str "clash")) (.cons (.v 4) (.cons (.v 5) (.cons (.v 6) .nil)))))) (.skip)) (.skip)) (.seq (.if_ (.cmp .notin (.call 30 (.cons (.v 0) (.cons (.v 7) (.cons (.v 8) .nil)))) (.rv 2)) (.seq (.app 2 (.call 30 (.cons (.v 0) (.cons (.v 7) (.cons (.v 8) .nil))))) (.seq (.for_ (.t (.cons (.n 9) (.cons (.n 10) (.cons (.n 11) (.cons (.n 12) .nil))))) (.l (.call 33 (.cons (.v 0) (.cons (.v 7) (.cons (.v 8) .nil))))) b34_2) (.skip))) (.skip)) (.seq (.asg 3 (.bin .add (.rv 3) (.c (.int 1)))) (.skip)))))
def e34_4 : E := (.v 13)
@[simp] theorem e34_4_nop : E.isNop e34_4 = false := rfl
def c34_5 : E := (.cmp .isin (.rv 13) (.rv 2))
@[simp] theorem c34_5_nop : E.isNop c34_5 = false := rfl
def t34_6 : S := .seq (.ret (.tup (.cons (.c (.str "kept")) (.cons (.lc [13] e34_4 (.n 13) (.l (.call 31 (.cons (.v 0) .nil))) c34_5) .nil)))) (.skip)
def f34 : S := .seq (.ex (.call 21 (.cons (.rv 0) .nil))) (.seq (.asg 1 (.lc [4, 5, 6, 7, 8] e34_0 (.t (.cons (.n 4) (.cons (.n 5) (.cons (.n 6) (.cons (.n 7) (.cons (.n 8) .nil)))))) (.l (.call 32 (.cons (.v 0) .nil))) .nop)) (.seq (.par [2, 3] (.cons (.lst .nil) (.cons (.c (.int 0)) .nil))) (.seq (.wh w34_1 b34_3) (t34_6))))
def a34 : List Str := ["box"]
def N35 : List Str := ["box", "pair", "found", "one", "two", "here", "there"]
def b35_0 : S := (.seq (.if_ (.cmp .notin (.call 30 (.cons (.v 0) (.cons (.v 5) (.cons (.v 6) .nil)))) (.rv 2)) (.seq (.app 2 (.call 30 (.cons (.v 0) (.cons (.v 5) (.cons (.v 6) .nil))))) (.skip)) (.skip)) (.skip))
def t35_1 : S := .seq (.ret (.rv 2)) (.skip)
def f35 : S := .seq (.asg 2 (.lst .nil)) (.seq (.for_ (.t (.cons (.n 3) (.cons (.n 4) (.cons (.n 5) (.cons (.n 6) .nil))))) (.l (.call 33 (.cons (.v 0) (.cons (.sub (.rv 1) (.c (.int 0))) (.cons (.sub (.rv 1) (.c (.int 1))) .nil))))) b35_0) (t35_1))
def a35 : List Str := ["box", "pair"]
def N36 : List Str := ["box", "found", "state", "one", "two", "mine", "theirs"]
def b36_0 : S := (.seq (.if_ (.cmp .notin (.call 30 (.cons (.v 0) (.cons (.v 5) (.cons (.v 6) .nil)))) (.rv 1)) (.seq (.app 1 (.call 30 (.cons (.v 0) (.cons (.v 5) (.cons (.v 6) .nil))))) (.skip)) (.skip)) (.skip))
def t36_1 : S := .seq (.ret (.rv 1)) (.skip)
def f36 : S := .seq (.asg 1 (.lst .nil)) (.seq (.for_ (.t (.cons (.n 2) (.cons (.n 3) (.cons (.n 4) (.cons (.n 5) (.cons (.n 6) .nil)))))) (.l (.call 32 (.cons (.v 0) .nil))) b36_0) (t36_1))
def a36 : List Str := ["box"]
def N37 : List Str := ["box", "found", "at", "pair"]
def w37_0 : E := (.cmp .lt (.rv 2) (.bi .len (.cons (.rv 1) .nil)))
@[simp] theorem w37_0_nop : E.isNop w37_0 = false := rfl
def e37_1 : E := (.v 3)
@[simp] theorem e37_1_nop : E.isNop e37_1 = false := rfl
def c37_2 : E := (.cmp .notin (.rv 3) (.rv 1))
@[simp] theorem c37_2_nop : E.isNop c37_2 = false := rfl
def b37_3 : S := (.seq (.ext 1 (.lc [3] e37_1 (.n 3) (.l (.call 35 (.cons (.v 0) (.cons (.sub (.rv 1) (.rv 2)) .nil)))) c37_2)) (.seq (.asg 2 (.bin .add (.rv 2) (.c (.int 1)))) (.skip)))
def t37_4 : S := .seq (.ret (.rv 1)) (.skip)
def f37 : S := .seq (.par [1, 2] (.cons (.call 36 (.cons (.v 0) .nil)) (.cons (.c (.int 0)) .nil))) (.seq (.wh w37_0 b37_3) (t37_4))
def a37 : List Str := ["box"]
def N38 : List Str := ["box", "ready", "left", "ranks", "pair", "one"]
def w38_0 : E := (.cmp .ne (.rv 1) (.lst .nil))
@[simp] theorem w38_0_nop : E.isNop w38_0 = false := rfl
def e38_1 : E := (.cmp .isin (.rv 5) (.rv 3))
@[simp] theorem e38_1_nop : E.isNop e38_1 = false := rfl
def e38_2 : E := (.v 4)
@[simp] theorem e38_2_nop : E.isNop e38_2 = false := rfl
def c38_3 : E := (.bi .all (.cons (.lc [5] e38_1 (.n 5) (.l (.call 35 (.cons (.v 0) (.cons (.v 4) .nil)))) .nop) .nil))
@[simp] theorem c38_3_nop : E.isNop c38_3 = false := rfl
def e38_4 : E := (.sub (.rv 3) (.rv 5))
@[simp] theorem e38_4_nop : E.isNop e38_4 = false := rfl
def b38_5 : S := (.seq (.seti 3 (.rv 4) (.bin .add (.bi .max1 (.cons (.bin .add (.lst (.cons (.neg (.c (.int 1))) .nil)) (.lc [5] e38_4 (.n 5) (.l (.call 35 (.cons (.v 0) (.cons (.v 4) .nil)))) .nop)) .nil)) (.c (.int 1)))) (.skip))
def e38_6 : E := (.v 4)
@[simp] theorem e38_6_nop : E.isNop e38_6 = false := rfl
def c38_7 : E := (.cmp .notin (.rv 4) (.rv 1))
@[simp] theorem c38_7_nop : E.isNop c38_7 = false := rfl
def t38_8 : S := .seq (.asg 2 (.lc [4] e38_6 (.n 4) (.l (.rv 2)) c38_7)) (.skip)
def b38_9 : S := (.seq (.asg 1 (.lc [4] e38_2 (.n 4) (.l (.rv 2)) c38_3)) (.seq (.frz [1]) (.seq (.for_ (.n 4) (.l (.v 1)) b38_5) (t38_8))))
def t38_10 : S := .seq (.frz [2, 3]) (.seq (.ret (.tup (.cons (.v 3) (.cons (.v 2) .nil)))) (.skip))
def f38 : S := .seq (.par [2, 3] (.cons (.call 37 (.cons (.v 0) .nil)) (.cons (.dnew true) .nil))) (.seq (.frz [2]) (.seq (.asg 1 (.v 2)) (.seq (.wh w38_0 b38_9) (t38_10))))
def a38 : List Str := ["box"]
def N39 : List Str := ["box", "ranks", "left"]
def f39 : S := .seq (.unp (.t (.cons (.n 1) (.cons (.n 2) .nil))) (.call 38 (.cons (.v 0) .nil))) (.seq (.ret (.ife (.cmp .eq (.rv 2) (.lst .nil)) (.v 1) (.c .non))) (.skip))
def a39 : List Str := ["box"]
def N40 : List Str := ["box", "ranks", "pair"]
def e40_0 : E := (.bin .add (.sub (.rv 1) (.rv 2)) (.c (.int 1)))
@[simp] theorem e40_0_nop : E.isNop e40_0 = false := rfl
def f40 : S := .seq (.ex (.call 21 (.cons (.rv 0) .nil))) (.seq (.asg 1 (.call 39 (.cons (.v 0) .nil))) (.seq (.if_ (.isN (.rv 1)) (.seq (.ret (.c .non)) (.skip)) (.skip)) (.seq (.ret (.bi .max1 (.cons (.bin .add (.lst (.cons (.c (.int 0)) .nil)) (.lc [2] e40_0 (.n 2) (.l (.call 36 (.cons (.v 0) .nil))) .nop)) .nil))) (.skip))))
def a40 : List Str := ["box"]
def N43 : List Str := ["state", "low", "high"]
def f43 : S := .seq (.ret (.bin .add (.rv 1) (.call 42 (.cons (.rv 0) (.cons (.bin .add (.bi .max2 (.cons (.bin .sub (.rv 2) (.rv 1)) (.cons (.c (.int 0)) .nil))) (.c (.int 1))) .nil))))) (.skip)
def a43 : List Str := ["state", "low", "high"]
def N44 : List Str := ["state", "things"]
def f44 : S := .seq (.ret (.sub (.rv 1) (.call 42 (.cons (.rv 0) (.cons (.bi .len (.cons (.rv 1) .nil)) .nil))))) (.skip)
def a44 : List Str := ["state", "things"]
def N45 : List Str := ["state", "things", "k", "left", "found"]
def b45_0 : S := (.seq (.apop 4 3 (.call 42 (.cons (.rv 0) (.cons (.bi .len (.cons (.rv 3) .nil)) .nil)))) (.skip))
def t45_1 : S := .seq (.ret (.rv 4)) (.skip)
def f45 : S := .seq (.par [3, 4] (.cons (.bi .list (.cons (.rv 1) .nil)) (.cons (.lst .nil) .nil))) (.seq (.for_ (.n 2) (.r1 (.bi .len (.cons (.rv 3) .nil))) b45_0) (t45_1))
def a45 : List Str := ["state", "things"]
def N46 : List Str := ["found", "due", "key", "mine", "theirs"]
def e46_0 : E := (.call 46 (.cons (.rv 3) (.cons (.rv 4) .nil)))
@[simp] theorem e46_0_nop : E.isNop e46_0 = false := rfl
def e46_1 : E := (.call 46 (.cons (.sub (.rv 0) (.rv 2)) (.cons (.sub (.rv 1) (.rv 2)) .nil)))
@[simp] theorem e46_1_nop : E.isNop e46_1 = false := rfl
def f46 : S := .seq (.if_ (.isi (.rv 1) [.b "list", .b "tuple"]) (.seq (.if_ (.or (.cmp .ne (.isi (.rv 0) [.b "list"]) (.isi (.rv 1) [.b "list"])) (.cmp .ne (.isi (.rv 0) [.b "tuple"]) (.isi (.rv 1) [.b "tuple"]))) (.seq (.ret (.c (.bl false))) (.skip)) (.skip)) (.seq (.ret (.and (.cmp .eq (.bi .len (.cons (.rv 0) .nil)) (.bi .len (.cons (.rv 1) .nil))) (.bi .all (.cons (.lc [3, 4] e46_0 (.t (.cons (.n 3) (.cons (.n 4) .nil))) (.zp (.rv 0) (.rv 1)) .nop) .nil)))) (.skip))) (.skip)) (.seq (.if_ (.isi (.rv 1) [.b "dict"]) (.seq (.if_ (.or (.not (.isi (.rv 0) [.b "dict"])) (.not (.call 46 (.cons (.bi .list (.cons (.rv 0) .nil)) (.cons (.bi .list (.cons (.rv 1) .nil)) .nil))))) (.seq (.ret (.c (.bl false))) (.skip)) (.skip)) (.seq (.ret (.bi .all (.cons (.lc [2] e46_1 (.n 2) (.l (.rv 1)) .nop) .nil))) (.skip))) (.skip)) (.seq (.if_ (.isN (.rv 1)) (.seq (.ret (.isN (.rv 0))) (.skip)) (.skip)) (.seq (.if_ (.isi (.rv 1) [.b "bool"]) (.seq (.ret (.and (.isi (.rv 0) [.b "bool"]) (.cmp .eq (.rv 0) (.rv 1)))) (.skip)) (.skip)) (.seq (.if_ (.isi (.rv 1) [.b "int"]) (.seq (.ret (.and (.isi (.rv 0) [.b "int"]) (.and (.not (.isi (.rv 0) [.b "bool"])) (.cmp .eq (.rv 0) (.rv 1))))) (.skip)) (.skip)) (.seq (.ret (.and (.isi (.rv 0) [.b "str"]) (.cmp .eq (.rv 0) (.rv 1)))) (.skip))))))
def a46 : List Str := ["found", "due"]
def N47 : List Str := ["thing", "found", "key", "one"]
def e47_0 : E := (.call 47 (.cons (.v 3) .nil))
@[simp] theorem e47_0_nop : E.isNop e47_0 = false := rfl
def e47_1 : E := (.call 47 (.cons (.v 3) .nil))
@[simp] theorem e47_1_nop : E.isNop e47_1 = false := rfl
def b47_2 : S := (.seq (.seti 1 (.rv 2) (.call 47 (.cons (.sub (.rv 0) (.rv 2)) .nil))) (.skip))
def t47_3 : S := .seq (.ret (.rv 1)) (.skip)
def f47 : S := .seq (.if_ (.isi (.rv 0) [.b "list"]) (.seq (.ret (.lc [3] e47_0 (.n 3) (.l (.rv 0)) .nop)) (.skip)) (.skip)) (.seq (.if_ (.isi (.rv 0) [.b "tuple"]) (.seq (.ret (.bi .tuple (.cons (.lc [3] e47_1 (.n 3) (.l (.rv 0)) .nop) .nil))) (.skip)) (.skip)) (.seq (.if_ (.isi (.rv 0) [.b "dict"]) (.seq (.asg 1 (.dnew true)) (.seq (.for_ (.n 2) (.l (.v 0)) b47_2) (t47_3))) (.skip)) (.seq (.ret (.rv 0)) (.skip))))
def a47 : List Str := ["thing"]
def N48 : List Str := ["thing"]
def f48 : S := .seq (.ret (.and (.isi (.rv 0) [.b "int"]) (.and (.not (.isi (.rv 0) [.b "bool"])) (.cmp .ge (.rv 0) (.c (.int 0)))))) (.skip)
def a48 : List Str := ["thing"]
def N49 : List Str := ["taken", "word", "k"]
def b49_0 : S := (.seq (.if_ (.cmp .notin (.rv 1) (.rv 0)) (.seq (.ret (.rv 1)) (.skip)) (.skip)) (.seq (.asg 1 (.bin .add (.bin .add (.sub (.c (.str "qxyz")) (.bin .mod (.rv 2) (.c (.int 4)))) (.sub (.c (.str "abcdefghijklmnopqrstuvwxyz")) (.bin .mod (.bin .fdiv (.rv 2) (.c (.int 4))) (.c (.int 26))))) (.sub (.c (.str "abcdefghij")) (.bin .fdiv (.rv 2) (.c (.int 104)))))) (.skip)))
def t49_1 : S := .seq (.ret (.rv 1)) (.skip)
def f49 : S := .seq (.for_ (.n 2) (.r1 (.c (.int 600))) b49_0) (t49_1)
def a49 : List Str := ["taken", "word"]
def N50 : List Str := ["state", "many", "k", "few", "words", "word", "more"]
def b50_0 : S := (.seq (.asg 5 (.bin .add (.rv 5) (.ife (.rv 3) (.sub (.c (.str "abc")) (.call 42 (.cons (.rv 0) (.cons (.c (.int 3)) .nil)))) (.sub (.c (.str "abcdefghijklmnopqrstuvwxyz")) (.call 42 (.cons (.rv 0) (.cons (.c (.int 26)) .nil))))))) (.skip))
def t50_1 : S := .seq (.app 4 (.call 49 (.cons (.rv 4) (.cons (.rv 5) .nil)))) (.skip)
def b50_2 : S := (.seq (.asg 5 (.ife (.rv 3) (.sub (.c (.str "ab")) (.call 42 (.cons (.rv 0) (.cons (.c (.int 2)) .nil)))) (.sub (.c (.str "abcdefghijklmnopqrstuvwxyz")) (.call 42 (.cons (.rv 0) (.cons (.c (.int 26)) .nil)))))) (.seq (.for_ (.n 6) (.r1 (.call 42 (.cons (.rv 0) (.cons (.ife (.rv 3) (.c (.int 3)) (.c (.int 8))) .nil)))) b50_0) (t50_1)))
def t50_3 : S := .seq (.ret (.rv 4)) (.skip)
def f50 : S := .seq (.par [3, 4] (.cons (.cmp .eq (.call 42 (.cons (.rv 0) (.cons (.c (.int 2)) .nil))) (.c (.int 0))) (.cons (.lst .nil) .nil))) (.seq (.for_ (.n 2) (.r1 (.rv 1)) b50_2) (t50_3))
def a50 : List Str := ["state", "many"]
def N51 : List Str := ["raw", "some"]
def f51 : S := .seq (.asg 1 (.call 47 (.cons (.v 0) .nil))) (.seq (.ret (.new 15 (.cons (.sub (.rv 1) (.c (.int 0))) (.cons (.sub (.rv 1) (.c (.int 1))) (.cons (.sub (.rv 1) (.c (.int 2))) .nil))))) (.skip))
def a51 : List Str := ["raw"]
def N52 : List Str := ["state", "many", "kind", "one", "turned", "place"]
def e52_0 : E := (.bin .mod (.bin .add (.rv 5) (.rv 4)) (.rv 1))
@[simp] theorem e52_0_nop : E.isNop e52_0 = false := rfl
def e52_1 : E := (.ife (.and (.cmp .eq (.rv 2) (.c (.int 3))) (.cmp .gt (.call 42 (.cons (.rv 0) (.cons (.c (.int 3)) .nil))) (.c (.int 0)))) (.v 3) (.call 42 (.cons (.rv 0) (.cons (.rv 1) .nil))))
@[simp] theorem e52_1_nop : E.isNop e52_1 = false := rfl
def f52 : S := .seq (.if_ (.cmp .eq (.rv 2) (.c (.int 1))) (.seq (.ret (.call 45 (.cons (.v 0) (.cons (.lrng (.rv 1)) .nil)))) (.skip)) (.skip)) (.seq (.if_ (.cmp .eq (.rv 2) (.c (.int 2))) (.seq (.asg 4 (.call 42 (.cons (.rv 0) (.cons (.rv 1) .nil)))) (.seq (.ret (.lc [5] e52_0 (.n 5) (.r1 (.rv 1)) .nop)) (.skip))) (.skip)) (.seq (.asg 3 (.call 42 (.cons (.rv 0) (.cons (.rv 1) .nil)))) (.seq (.ret (.lc [5] e52_1 (.n 5) (.r1 (.rv 1)) .nop)) (.skip))))
def a52 : List Str := ["state", "many", "kind"]
def N53 : List Str := ["state", "least", "most", "gone", "names", "button", "many", "buttons", "states", "rows", "words", "place", "nexts", "odd", "word"]
def b53_0 : S := (.seq (.frz [10]) (.seq (.asg 14 (.ife (.and (.cmp .lt (.rv 13) (.c (.int 2))) (.cmp .ne (.rv 11) (.call 42 (.cons (.rv 0) (.cons (.rv 6) .nil))))) (.sub (.rv 10) (.c (.int 0))) (.call 44 (.cons (.v 0) (.cons (.v 10) .nil))))) (.seq (.if_ (.or (.cmp .eq (.rv 3) (.c (.int 0))) (.cmp .gt (.call 42 (.cons (.rv 0) (.cons (.rv 3) .nil))) (.c (.int 0)))) (.seq (.app 9 (.tup (.cons (.sub (.rv 8) (.rv 11)) (.cons (.v 5) (.cons (.v 14) (.cons (.sub (.rv 8) (.sub (.rv 12) (.rv 11))) .nil)))))) (.skip)) (.skip)) (.skip))))
def b53_1 : S := (.seq (.frz [6]) (.seq (.par [12, 13] (.cons (.call 52 (.cons (.v 0) (.cons (.v 6) (.cons (.call 42 (.cons (.rv 0) (.cons (.c (.int 4)) .nil))) .nil)))) (.cons (.call 42 (.cons (.rv 0) (.cons (.c (.int 4)) .nil))) .nil))) (.seq (.for_ (.n 11) (.r1 (.rv 6)) b53_0) (.skip))))
def t53_2 : S := .seq (.frz [7, 8, 9]) (.seq (.ret (.lst (.cons (.v 8) (.cons (.v 7) (.cons (.call 54 (.cons (.lst (.cons (.v 8) (.cons (.v 7) (.cons (.v 9) .nil)))) .nil)) .nil))))) (.skip))
def f53 : S := .seq (.asg 4 (.call 50 (.cons (.v 0) (.cons (.bin .add (.rv 2) (.c (.int 4))) .nil)))) (.seq (.par [6, 7] (.cons (.call 43 (.cons (.rv 0) (.cons (.rv 1) (.cons (.rv 2) .nil)))) (.cons (.sl (.sl (.rv 4) (.rv 2) .nop) .nop (.bin .add (.c (.int 1)) (.call 42 (.cons (.rv 0) (.cons (.c (.int 4)) .nil))))) .nil))) (.seq (.par [8, 9, 10] (.cons (.sl (.rv 4) .nop (.rv 6)) (.cons (.lst .nil) (.cons (.call 50 (.cons (.v 0) (.cons (.bin .add (.c (.int 1)) (.call 42 (.cons (.rv 0) (.cons (.c (.int 3)) .nil)))) .nil))) .nil)))) (.seq (.frz [7]) (.seq (.for_ (.n 5) (.l (.v 7)) b53_1) (t53_2)))))
def a53 : List Str := ["state", "least", "most", "gone"]
def N54 : List Str := ["raw", "found", "state", "button", "row"]
def e54_0 : E := (.v 4)
@[simp] theorem e54_0_nop : E.isNop e54_0 = false := rfl
def c54_1 : E := (.and (.cmp .eq (.sub (.rv 4) (.c (.int 0))) (.rv 2)) (.cmp .eq (.sub (.rv 4) (.c (.int 1))) (.rv 3)))
@[simp] theorem c54_1_nop : E.isNop c54_1 = false := rfl
def b54_2 : S := (.seq (.ext 1 (.lc [4] e54_0 (.n 4) (.l (.sub (.rv 0) (.c (.int 2)))) c54_1)) (.skip))
def b54_3 : S := (.seq (.for_ (.n 3) (.l (.sub (.rv 0) (.c (.int 1)))) b54_2) (.skip))
def t54_4 : S := .seq (.ret (.rv 1)) (.skip)
def f54 : S := .seq (.asg 1 (.lst .nil)) (.seq (.for_ (.n 2) (.l (.sub (.rv 0) (.c (.int 0)))) b54_3) (t54_4))
def a54 : List Str := ["raw"]
def N55 : List Str := ["raw", "one", "many", "found", "k", "longer", "presses", "words", "here", "row"]
def b55_0 : S := (.seq (.if_ (.cmp .eq (.sub (.rv 9) (.c (.int 0))) (.rv 8)) (.seq (.app 5 (.tup (.cons (.bin .add (.rv 6) (.lst (.cons (.sub (.rv 9) (.c (.int 1))) .nil))) (.cons (.bin .add (.rv 7) (.lst (.cons (.sub (.rv 9) (.c (.int 2))) .nil))) (.cons (.sub (.rv 9) (.c (.int 3))) .nil))))) (.skip)) (.skip)) (.skip))
def b55_1 : S := (.seq (.for_ (.n 9) (.l (.sub (.rv 0) (.c (.int 2)))) b55_0) (.skip))
def t55_2 : S := .seq (.frz [5]) (.seq (.asg 3 (.v 5)) (.skip))
def b55_3 : S := (.seq (.asg 5 (.lst .nil)) (.seq (.frz [3]) (.seq (.for_ (.t (.cons (.n 6) (.cons (.n 7) (.cons (.n 8) .nil)))) (.l (.v 3)) b55_1) (t55_2))))
def t55_4 : S := .seq (.ret (.rv 3)) (.skip)
def f55 : S := .seq (.asg 3 (.lst (.cons (.tup (.cons (.lst .nil) (.cons (.lst .nil) (.cons (.v 1) .nil)))) .nil))) (.seq (.for_ (.n 4) (.r1 (.rv 2)) b55_3) (t55_4))
def a55 : List Str := ["raw", "one", "many"]
def N56 : List Str := ["raw", "many", "one", "firsts", "presses", "words", "here", "key"]
def b56_0 : S := (.seq (.asg 7 (.bi .tuple (.cons (.rv 5) .nil))) (.seq (.if_ (.cmp .ne (.get2 (.rv 3) (.rv 7) (.sub (.rv 4) (.c (.int 0)))) (.sub (.rv 4) (.c (.int 0)))) (.seq (.ret (.c (.bl true))) (.skip)) (.skip)) (.seq (.seti 3 (.rv 7) (.sub (.rv 4) (.c (.int 0)))) (.skip))))
def b56_1 : S := (.seq (.asg 3 (.dnew true)) (.seq (.for_ (.t (.cons (.n 4) (.cons (.n 5) (.cons (.n 6) .nil)))) (.l (.call 55 (.cons (.v 0) (.cons (.v 2) (.cons (.v 1) .nil))))) b56_0) (.skip)))
def t56_2 : S := .seq (.ret (.c (.bl false))) (.skip)
def f56 : S := .seq (.for_ (.n 2) (.l (.sub (.rv 0) (.c (.int 0)))) b56_1) (t56_2)
def a56 : List Str := ["raw", "many"]
def N58 : List Str := ["script", "state", "turn", "raw", "words", "own", "rows", "box", "many", "one", "delay", "lossless", "presses", "told", "here", "row"]
def eLaw_0 : E := (.v 15)
@[simp] theorem eLaw_0_nop : E.isNop eLaw_0 = false := rfl
def cLaw_1 : E := (.cmp .isin (.sub (.rv 15) (.c (.int 1))) (.sub (.rv 3) (.c (.int 1))))
@[simp] theorem cLaw_1_nop : E.isNop cLaw_1 = false := rfl
def eLaw_2 : E := (.ife (.and (.cmp .gt (.rv 5) (.c (.int 1))) (.cmp .gt (.call 42 (.cons (.rv 1) (.cons (.c (.int 5)) .nil))) (.c (.int 0)))) (.tup (.cons (.sub (.rv 15) (.c (.int 0))) (.cons (.sub (.rv 15) (.c (.int 1))) (.cons (.sub (.rv 4) (.index (.sub (.rv 3) (.c (.int 1))) (.sub (.rv 15) (.c (.int 1))))) (.cons (.sub (.rv 15) (.c (.int 3))) .nil))))) (.v 15))
@[simp] theorem eLaw_2_nop : E.isNop eLaw_2 = false := rfl
def bLaw_3 : S := (.seq (.if_ (.and (.isN (.rv 10)) (.not (.call 56 (.cons (.rv 3) (.cons (.rv 8) .nil))))) (.seq (.ret (.c (.bl false))) (.skip)) (.skip)) (.seq (.if_ (.and (.rv 11) (.call 57 (.cons (.rv 3) (.cons (.rv 8) .nil)))) (.seq (.ret (.c (.bl false))) (.skip)) (.skip)) (.skip)))
def bLaw_4 : S := (.seq (.if_ (.not (.call 46 (.cons (.lst (.cons (.call 28 (.cons (.v 7) (.cons (.v 9) (.cons (.v 12) .nil)))) (.cons (.call 29 (.cons (.v 7) (.cons (.v 9) (.cons (.v 12) .nil)))) .nil))) (.cons (.lst (.cons (.v 13) (.cons (.v 14) .nil))) .nil)))) (.seq (.ret (.c (.bl false))) (.skip)) (.skip)) (.skip))
def tLaw_5 : S := .seq (.asg 9 (.call 44 (.cons (.v 1) (.cons (.sub (.rv 3) (.c (.int 0))) .nil)))) (.seq (.frz [3]) (.seq (.for_ (.t (.cons (.n 12) (.cons (.n 13) (.cons (.n 14) .nil)))) (.l (.sl (.call 55 (.cons (.v 3) (.cons (.v 9) (.cons (.c (.int 2)) .nil)))) .nop (.c (.int 6)))) bLaw_4) (.skip)))
def bLaw_6 : S := (.seq (.asg 3 (.call 53 (.cons (.v 1) (.cons (.c (.int 1)) (.cons (.call 44 (.cons (.v 1) (.cons (.lst (.cons (.c (.int 2)) (.cons (.c (.int 3)) (.cons (.c (.int 4)) .nil)))) .nil))) (.cons (.call 44 (.cons (.v 1) (.cons (.lst (.cons (.c (.int 0)) (.cons (.c (.int 2)) (.cons (.c (.int 3)) .nil)))) .nil))) .nil)))))) (.seq (.seti 3 (.c (.int 1)) (.sl (.sub (.rv 3) (.c (.int 1))) .nop (.c (.int 3)))) (.seq (.asg 4 (.call 50 (.cons (.v 1) (.cons (.c (.int 4)) .nil)))) (.seq (.asg 5 (.call 42 (.cons (.rv 1) (.cons (.c (.int 5)) .nil)))) (.seq (.asg 6 (.lc [15] eLaw_0 (.n 15) (.l (.sub (.rv 3) (.c (.int 2)))) cLaw_1)) (.seq (.seti 3 (.c (.int 2)) (.lc [15] eLaw_2 (.n 15) (.l (.rv 6)) .nop)) (.seq (.frz [3]) (.seq (.asg 7 (.call 51 (.cons (.v 3) .nil))) (.seq (.par [10, 11] (.cons (.call 40 (.cons (.rv 7) .nil)) (.cons (.cmp .eq (.sub (.call 34 (.cons (.v 7) .nil)) (.c (.int 0))) (.c (.str "kept"))) .nil))) (.seq (.if_ (.notN (.rv 10)) (.seq (.if_ (.or (.not (.call 48 (.cons (.rv 10) .nil))) (.and (.cmp .lt (.rv 10) (.c (.int 4))) (.call 56 (.cons (.rv 3) (.cons (.bin .add (.rv 10) (.c (.int 1))) .nil))))) (.seq (.ret (.c (.bl false))) (.skip)) (.skip)) (.seq (.if_ (.and (.ch .lt .lt (.c (.int 0)) (.rv 10) (.c (.int 5))) (.not (.call 56 (.cons (.rv 3) (.cons (.rv 10) .nil))))) (.seq (.ret (.c (.bl false))) (.skip)) (.skip)) (.skip))) (.skip)) (.seq (.for_ (.n 8) (.r2 (.c (.int 1)) (.c (.int 5))) bLaw_3) (tLaw_5))))))))))))
def tLaw_7 : S := .seq (.ret (.c (.bl true))) (.skip)
def fLaw : S := .seq (.for_ (.n 2) (.r1 (.c (.int 4))) bLaw_6) (tLaw_7)
theorem k0 : chkSs Γ N0 (defScope s0) f0 (defBody s0) = true := by decide +kernel
theorem k1 : chkSs Γ N1 (defScope s1) f1 (defBody s1) = true := by decide +kernel
theorem k2 : chkSs Γ N2 (defScope s2) f2 (defBody s2) = true := by decide +kernel
theorem k3 : chkSs Γ N3 (defScope s3) f3 (defBody s3) = true := by decide +kernel
theorem k4 : chkSs Γ N4 (defScope s4) f4 (defBody s4) = true := by decide +kernel
theorem k11 : chkSs Γ N11 (defScope s11) f11 (defBody s11) = true := by decide +kernel
theorem k12 : chkSs Γ N12 (defScope s12) f12 (defBody s12) = true := by decide +kernel
theorem k13 : chkSs Γ N13 (defScope s13) f13 (defBody s13) = true := by decide +kernel
theorem k14 : chkSs Γ N14 (defScope s14) f14 (defBody s14) = true := by decide +kernel
theorem k16 : chkSs Γ N16 (defScope s16) f16 (defBody s16) = true := by decide +kernel
theorem k17 : chkSs Γ N17 (defScope s17) f17 (defBody s17) = true := by decide +kernel
theorem k18 : chkSs Γ N18 (defScope s18) f18 (defBody s18) = true := by decide +kernel
theorem k19 : chkSs Γ N19 (defScope s19) f19 (defBody s19) = true := by decide +kernel
theorem k20 : chkSs Γ N20 (defScope s20) f20 (defBody s20) = true := by decide +kernel
theorem k21 : chkSs Γ N21 (defScope s21) f21 (defBody s21) = true := by decide +kernel
theorem k22 : chkSs Γ N22 (defScope s22) f22 (defBody s22) = true := by decide +kernel
theorem k23 : chkSs Γ N23 (defScope s23) f23 (defBody s23) = true := by decide +kernel
theorem k24 : chkSs Γ N24 (defScope s24) f24 (defBody s24) = true := by decide +kernel
theorem k25 : chkSs Γ N25 (defScope s25) f25 (defBody s25) = true := by decide +kernel
theorem k26 : chkSs Γ N26 (defScope s26) f26 (defBody s26) = true := by decide +kernel
theorem k27 : chkSs Γ N27 (defScope s27) f27 (defBody s27) = true := by decide +kernel
theorem k28 : chkSs Γ N28 (defScope s28) f28 (defBody s28) = true := by decide +kernel
theorem k29 : chkSs Γ N29 (defScope s29) f29 (defBody s29) = true := by decide +kernel
theorem k30 : chkSs Γ N30 (defScope s30) f30 (defBody s30) = true := by decide +kernel
theorem k31 : chkSs Γ N31 (defScope s31) f31 (defBody s31) = true := by decide +kernel
theorem k32 : chkSs Γ N32 (defScope s32) f32 (defBody s32) = true := by decide +kernel
theorem k33 : chkSs Γ N33 (defScope s33) f33 (defBody s33) = true := by decide +kernel
theorem k34 : chkSs Γ N34 (defScope s34) f34 (defBody s34) = true := by decide +kernel
theorem k35 : chkSs Γ N35 (defScope s35) f35 (defBody s35) = true := by decide +kernel
theorem k36 : chkSs Γ N36 (defScope s36) f36 (defBody s36) = true := by decide +kernel
theorem k37 : chkSs Γ N37 (defScope s37) f37 (defBody s37) = true := by decide +kernel
theorem k38 : chkSs Γ N38 (defScope s38) f38 (defBody s38) = true := by decide +kernel
theorem k39 : chkSs Γ N39 (defScope s39) f39 (defBody s39) = true := by decide +kernel
theorem k40 : chkSs Γ N40 (defScope s40) f40 (defBody s40) = true := by decide +kernel
theorem k43 : chkSs Γ N43 (defScope s43) f43 (defBody s43) = true := by decide +kernel
theorem k44 : chkSs Γ N44 (defScope s44) f44 (defBody s44) = true := by decide +kernel
theorem k45 : chkSs Γ N45 (defScope s45) f45 (defBody s45) = true := by decide +kernel
theorem k46 : chkSs Γ N46 (defScope s46) f46 (defBody s46) = true := by decide +kernel
theorem k47 : chkSs Γ N47 (defScope s47) f47 (defBody s47) = true := by decide +kernel
theorem k48 : chkSs Γ N48 (defScope s48) f48 (defBody s48) = true := by decide +kernel
theorem k49 : chkSs Γ N49 (defScope s49) f49 (defBody s49) = true := by decide +kernel
theorem k50 : chkSs Γ N50 (defScope s50) f50 (defBody s50) = true := by decide +kernel
theorem k51 : chkSs Γ N51 (defScope s51) f51 (defBody s51) = true := by decide +kernel
theorem k52 : chkSs Γ N52 (defScope s52) f52 (defBody s52) = true := by decide +kernel
theorem k53 : chkSs Γ N53 (defScope s53) f53 (defBody s53) = true := by decide +kernel
theorem k54 : chkSs Γ N54 (defScope s54) f54 (defBody s54) = true := by decide +kernel
theorem k55 : chkSs Γ N55 (defScope s55) f55 (defBody s55) = true := by decide +kernel
theorem k56 : chkSs Γ N56 (defScope s56) f56 (defBody s56) = true := by decide +kernel
theorem kLaw : chkSs Γ N58 (defScope s58) fLaw (defBody s58).tail = true := by decide +kernel
end K94
end
section
set_option Elab.async false
set_option linter.all false
set_option maxRecDepth 100000
set_option maxHeartbeats 0
namespace K94
open L2 IR PySem PySem.Spec PyProof.Rows
def d0 : He.DefD := ⟨("is_list", none), "is_list", "is_list", defArgs s0, defBody s0, defScope s0, [], []⟩
def d1 : He.DefD := ⟨("is_row", none), "is_row", "is_row", defArgs s1, defBody s1, defScope s1, [], []⟩
def d2 : He.DefD := ⟨("is_text", none), "is_text", "is_text", defArgs s2, defBody s2, defScope s2, [], []⟩
def d3 : He.DefD := ⟨("is_letters", none), "is_letters", "is_letters", defArgs s3, defBody s3, defScope s3, [], []⟩
def d4 : He.DefD := ⟨("is_word", none), "is_word", "is_word", defArgs s4, defBody s4, defScope s4, [], []⟩
def d5 : He.DefD := ⟨("BadStates", some "__init__"), "__init__", "BadStates.__init__", defArgs s5, defBody s5, defScope s5, [], []⟩
def d6 : He.DefD := ⟨("BadButtons", some "__init__"), "__init__", "BadButtons.__init__", defArgs s6, defBody s6, defScope s6, [], []⟩
def d7 : He.DefD := ⟨("BadRows", some "__init__"), "__init__", "BadRows.__init__", defArgs s7, defBody s7, defScope s7, [], []⟩
def d8 : He.DefD := ⟨("BadBox", some "__init__"), "__init__", "BadBox.__init__", defArgs s8, defBody s8, defScope s8, [], []⟩
def d9 : He.DefD := ⟨("BadState", some "__init__"), "__init__", "BadState.__init__", defArgs s9, defBody s9, defScope s9, [], []⟩
def d10 : He.DefD := ⟨("BadPresses", some "__init__"), "__init__", "BadPresses.__init__", defArgs s10, defBody s10, defScope s10, [], []⟩
def d11 : He.DefD := ⟨("wrong_names", none), "wrong_names", "wrong_names", defArgs s11, defBody s11, defScope s11, [], []⟩
def d12 : He.DefD := ⟨("is_one_of", none), "is_one_of", "is_one_of", defArgs s12, defBody s12, defScope s12, [], []⟩
def d13 : He.DefD := ⟨("is_row_in", none), "is_row_in", "is_row_in", defArgs s13, defBody s13, defScope s13, [], []⟩
def d14 : He.DefD := ⟨("wrong_rows", none), "wrong_rows", "wrong_rows", defArgs s14, defBody s14, defScope s14, [], []⟩
def d15 : He.DefD := ⟨("Box", some "__init__"), "__init__", "Box.__init__", defArgs s15, defBody s15, defScope s15, [], []⟩
def d16 : He.DefD := ⟨("Box", some "states"), "states", "Box.states", defArgs s16, defBody s16, defScope s16, [], []⟩
def d17 : He.DefD := ⟨("Box", some "buttons"), "buttons", "Box.buttons", defArgs s17, defBody s17, defScope s17, [], []⟩
def d18 : He.DefD := ⟨("Box", some "looked_up"), "looked_up", "Box.looked_up", defArgs s18, defBody s18, defScope s18, [], []⟩
def d19 : He.DefD := ⟨("Box", some "rows"), "rows", "Box.rows", defArgs s19, defBody s19, defScope s19, [], []⟩
def d20 : He.DefD := ⟨("Box", some "__eq__"), "__eq__", "Box.__eq__", defArgs s20, defBody s20, defScope s20, [], []⟩
def d21 : He.DefD := ⟨("need_box", none), "need_box", "need_box", defArgs s21, defBody s21, defScope s21, [], []⟩
def d22 : He.DefD := ⟨("check_state", none), "check_state", "check_state", defArgs s22, defBody s22, defScope s22, [], []⟩
def d23 : He.DefD := ⟨("need_state", none), "need_state", "need_state", defArgs s23, defBody s23, defScope s23, [], []⟩
def d24 : He.DefD := ⟨("are_presses", none), "are_presses", "are_presses", defArgs s24, defBody s24, defScope s24, [], []⟩
def d25 : He.DefD := ⟨("check_presses", none), "check_presses", "check_presses", defArgs s25, defBody s25, defScope s25, [], []⟩
def d26 : He.DefD := ⟨("need_presses", none), "need_presses", "need_presses", defArgs s26, defBody s26, defScope s26, [], []⟩
def d27 : He.DefD := ⟨("played", none), "played", "played", defArgs s27, defBody s27, defScope s27, [], []⟩
def d28 : He.DefD := ⟨("shown", none), "shown", "shown", defArgs s28, defBody s28, defScope s28, [], []⟩
def d29 : He.DefD := ⟨("after", none), "after", "after", defArgs s29, defBody s29, defScope s29, [], []⟩
def d30 : He.DefD := ⟨("pair_of", none), "pair_of", "pair_of", defArgs s30, defBody s30, defScope s30, [], []⟩
def d31 : He.DefD := ⟨("all_pairs", none), "all_pairs", "all_pairs", defArgs s31, defBody s31, defScope s31, [], []⟩
def d32 : He.DefD := ⟨("first_twins", none), "first_twins", "first_twins", defArgs s32, defBody s32, defScope s32, [], []⟩
def d33 : He.DefD := ⟨("next_twins", none), "next_twins", "next_twins", defArgs s33, defBody s33, defScope s33, [], []⟩
def d34 : He.DefD := ⟨("lossless_answer", none), "lossless_answer", "lossless_answer", defArgs s34, defBody s34, defScope s34, [], []⟩
def d35 : He.DefD := ⟨("pairs_behind", none), "pairs_behind", "pairs_behind", defArgs s35, defBody s35, defScope s35, [], []⟩
def d36 : He.DefD := ⟨("first_pairs", none), "first_pairs", "first_pairs", defArgs s36, defBody s36, defScope s36, [], []⟩
def d37 : He.DefD := ⟨("met_pairs", none), "met_pairs", "met_pairs", defArgs s37, defBody s37, defScope s37, [], []⟩
def d38 : He.DefD := ⟨("peeled", none), "peeled", "peeled", defArgs s38, defBody s38, defScope s38, [], []⟩
def d39 : He.DefD := ⟨("ranked", none), "ranked", "ranked", defArgs s39, defBody s39, defScope s39, [], []⟩
def d40 : He.DefD := ⟨("least_delay", none), "least_delay", "least_delay", defArgs s40, defBody s40, defScope s40, [], []⟩
def d41 : He.DefD := ⟨("_law_start", none), "_law_start", "_law_start", defArgs s41, defBody s41, defScope s41, [], []⟩
def d42 : He.DefD := ⟨("_law_pick", none), "_law_pick", "_law_pick", defArgs s42, defBody s42, defScope s42, [], []⟩
def d43 : He.DefD := ⟨("_law_between", none), "_law_between", "_law_between", defArgs s43, defBody s43, defScope s43, [], []⟩
def d44 : He.DefD := ⟨("_law_one", none), "_law_one", "_law_one", defArgs s44, defBody s44, defScope s44, [], []⟩
def d45 : He.DefD := ⟨("_law_mixed", none), "_law_mixed", "_law_mixed", defArgs s45, defBody s45, defScope s45, [], []⟩
def d46 : He.DefD := ⟨("_law_same", none), "_law_same", "_law_same", defArgs s46, defBody s46, defScope s46, [], []⟩
def d47 : He.DefD := ⟨("_law_copy", none), "_law_copy", "_law_copy", defArgs s47, defBody s47, defScope s47, [], []⟩
def d48 : He.DefD := ⟨("_law_is_number", none), "_law_is_number", "_law_is_number", defArgs s48, defBody s48, defScope s48, [], []⟩
def d49 : He.DefD := ⟨("_law_free_word", none), "_law_free_word", "_law_free_word", defArgs s49, defBody s49, defScope s49, [], []⟩
def d50 : He.DefD := ⟨("_law_words", none), "_law_words", "_law_words", defArgs s50, defBody s50, defScope s50, [], []⟩
def d51 : He.DefD := ⟨("_law_box_of", none), "_law_box_of", "_law_box_of", defArgs s51, defBody s51, defScope s51, [], []⟩
def d52 : He.DefD := ⟨("_law_nexts", none), "_law_nexts", "_law_nexts", defArgs s52, defBody s52, defScope s52, [], []⟩
def d53 : He.DefD := ⟨("_law_draw_box", none), "_law_draw_box", "_law_draw_box", defArgs s53, defBody s53, defScope s53, [], []⟩
def d54 : He.DefD := ⟨("_law_sorted_rows", none), "_law_sorted_rows", "_law_sorted_rows", defArgs s54, defBody s54, defScope s54, [], []⟩
def d55 : He.DefD := ⟨("_law_all_presses", none), "_law_all_presses", "_law_all_presses", defArgs s55, defBody s55, defScope s55, [], []⟩
def d56 : He.DefD := ⟨("_law_two_firsts", none), "_law_two_firsts", "_law_two_firsts", defArgs s56, defBody s56, defScope s56, [], []⟩
def d57 : He.DefD := ⟨("_law_two_lists", none), "_law_two_lists", "_law_two_lists", defArgs s57, defBody s57, defScope s57, [], []⟩
def d58 : He.DefD := ⟨("law", none), "law", "law", defArgs s58, defBody s58, defScope s58, [], []⟩
def fn : List He.DefD := [d0, d1, d2, d3, d4, d5, d6, d7, d8, d9, d10, d11, d12, d13, d14, d15, d16, d17, d18, d19, d20, d21, d22, d23, d24, d25, d26, d27, d28, d29, d30, d31, d32, d33, d34, d35, d36, d37, d38, d39, d40, d41, d42, d43, d44, d45, d46, d47, d48, d49, d50, d51, d52, d53, d54, d55, d56, d57, d58]
def fa : List He.Fa := [.glo "is_list",
  .glo "is_row",
  .glo "is_text",
  .glo "is_letters",
  .glo "is_word",
  .glo "wrong_names",
  .glo "is_one_of",
  .glo "is_row_in",
  .glo "wrong_rows",
  .glo "need_box",
  .glo "check_state",
  .glo "need_state",
  .glo "are_presses",
  .glo "check_presses",
  .glo "need_presses",
  .glo "played",
  .glo "shown",
  .glo "after",
  .glo "pair_of",
  .glo "all_pairs",
  .glo "first_twins",
  .glo "next_twins",
  .glo "lossless_answer",
  .glo "pairs_behind",
  .glo "first_pairs",
  .glo "met_pairs",
  .glo "peeled",
  .glo "ranked",
  .glo "least_delay",
  .glo "_law_start",
  .glo "_law_pick",
  .glo "_law_between",
  .glo "_law_one",
  .glo "_law_mixed",
  .glo "_law_same",
  .glo "_law_copy",
  .glo "_law_is_number",
  .glo "_law_free_word",
  .glo "_law_words",
  .glo "_law_box_of",
  .glo "_law_nexts",
  .glo "_law_draw_box",
  .glo "_law_sorted_rows",
  .glo "_law_all_presses",
  .glo "_law_two_firsts",
  .glo "_law_two_lists",
  .glo "law",
  .free "len",
  .free "isinstance",
  .free "list",
  .free "tuple",
  .free "all",
  .free "any",
  .free "max",
  .free "abs",
  .free "int",
  .free "str",
  .free "range",
  .free "enumerate",
  .free "zip",
  .free "dict",
  .free "bool",
  .str "LETTERS" "abcdefghijklmnopqrstuvwxyz",
  .glo "Box",
  .cls "Box",
  .mkr "Box",
  .noat "Box" "_states",
  .noat "Box" "_buttons",
  .noat "Box" "_table",
  .meth "Box" "states",
  .meth "Box" "buttons",
  .meth "Box" "looked_up",
  .meth "Box" "rows",
  .meth "Box" "__eq__"]
def oneB (K : PySem.W.Frag) (x : Str) : Bool := decide (PySem.W.findIn K (.ref (He.ga K x)) "__class__" = some (some (.builtin "object.__class__"))) && decide (PySem.W.mroIn K (He.ga K x) (.type "object") = some true) &&
  (IR.tyNs.all fun n => decide (PySem.W.kitOne K (.type n) (.ref (He.ga K x)) = some false)) && decide (PySem.W.kitOne K (.ref (He.ga K x)) (.ref (He.ga K x)) = some true) && (IR.tyNs.all fun n => decide (PySem.W.kitOne K (.ref (He.ga K x)) (.type n) = some false))
def myB (K : PySem.W.Frag) : Bool := decide (PySem.W.specialIn K (.builtin "object.__class__") "__get__" = some (some (.builtin "getset_descriptor.__get__"))) && decide (PySem.W.takesIn K (.builtin "object.__class__") = some true) && oneB K "Box"
abbrev R : PySem.W.OpenRow := PySem.W.OpenLaw.row PySem.Challenge.rw_pressrecord_k94_whole_buttons_read_from
def obG (g : Addr → Option Obj) : Bool × He.AlD := (myB (He.frG g (He.asD g 5)), He.obsDG 5 fa fn g)
def hk : PySem.W.Hook where
  α := Bool × He.AlD
  obs := fun s => obG s.heap.get?
  val := fun _ => (true, He.valD fn)
  says := fun _ h => ∃ K : PySem.W.Frag, K.In h ∧ He.SaysD fa fn K ∧ myB K = true
  of := fun _ _ e => ⟨_, He.frG_in, congrArg Prod.snd e, congrArg Prod.fst e⟩
  keeps := fun _ _ _ ⟨K, X, c⟩ hk => ⟨K, X.keeps hk, c⟩
def ob (s : PySem.W.SharedT) : Bool × He.AlD := obG (HandSHeadRun.getT s)
theorem ob_eq (s : PySem.W.SharedT) : ob s = hk.obs s.abs := by
  have e : HandSHeadRun.getT s = s.abs.heap.get? := funext fun a => HandSHeadRun.getT_eq s a
  show obG (HandSHeadRun.getT s) = obG s.abs.heap.get?
  rw [e]
def nm0 : List PySem.Str := ("LETTERS" : PySem.Str) :: ("is_list" : PySem.Str) :: ("is_row" : PySem.Str) :: ("is_text" : PySem.Str) :: ("is_letters" : PySem.Str) :: ("is_word" : PySem.Str) :: ("BoxError" : PySem.Str) :: ("BadStates" : PySem.Str) :: ("BadButtons" : PySem.Str) :: ("BadRows" : PySem.Str) :: ("BadBox" : PySem.Str) :: ("BadState" : PySem.Str) :: ("BadPresses" : PySem.Str) :: ("wrong_names" : PySem.Str) :: ("is_one_of" : PySem.Str) :: ("is_row_in" : PySem.Str) :: ("wrong_rows" : PySem.Str) :: ("Box" : PySem.Str) :: ("need_box" : PySem.Str) :: ("check_state" : PySem.Str) :: ("need_state" : PySem.Str) :: ("are_presses" : PySem.Str) :: ("check_presses" : PySem.Str) :: ("need_presses" : PySem.Str) :: ("played" : PySem.Str) :: ("shown" : PySem.Str) :: ("after" : PySem.Str) :: ("pair_of" : PySem.Str) :: ("all_pairs" : PySem.Str) :: ("first_twins" : PySem.Str) :: ("next_twins" : PySem.Str) :: ("lossless_answer" : PySem.Str) :: ("pairs_behind" : PySem.Str) :: ("first_pairs" : PySem.Str) :: ("met_pairs" : PySem.Str) :: ("peeled" : PySem.Str) :: ("ranked" : PySem.Str) :: ("least_delay" : PySem.Str) :: ("_law_start" : PySem.Str) :: ("_law_pick" : PySem.Str) :: []
def nm1 : List PySem.Str := ("_law_between" : PySem.Str) :: ("_law_one" : PySem.Str) :: ("_law_mixed" : PySem.Str) :: ("_law_same" : PySem.Str) :: ("_law_copy" : PySem.Str) :: ("_law_is_number" : PySem.Str) :: ("_law_free_word" : PySem.Str) :: ("_law_words" : PySem.Str) :: ("_law_box_of" : PySem.Str) :: ("_law_nexts" : PySem.Str) :: ("_law_draw_box" : PySem.Str) :: ("_law_sorted_rows" : PySem.Str) :: ("_law_all_presses" : PySem.Str) :: ("_law_two_firsts" : PySem.Str) :: ("_law_two_lists" : PySem.Str) :: []
def names : List PySem.Str := nm0 ++ nm1
theorem run (w : World) : HandSHeadRun.RunEq R (PySem.W.view R.prog [64]) hk ob 20000 names w := by
  intro os
  kernel_rfl
end K94
end
section
set_option Elab.async false
set_option linter.all false
set_option maxRecDepth 100000
set_option maxHeartbeats 0
namespace K94
open L2 IR PySem PySem.Spec PyProof.Rows
def arT : List Nat := [1, 2, 1, 1, 1, 1, 1, 1, 1, 1, 1, 1, 2, 3, 3, 3, 1, 1, 3, 1, 2, 1, 2, 2, 2, 2, 3, 3, 3, 3, 3, 1, 1, 3, 1, 2, 1, 1, 1, 1, 1, 1, 2, 3, 2, 2, 2, 1, 1, 2, 2, 1, 3, 4, 1, 3, 2, 2, 1]
def ar (f : Nat) : Nat := (arT[f]?).getD 0
def clA (K : PySem.W.Frag) (k : Nat) : Addr := match k with
  | 7 => He.ga K "Box"
  | _ => 0
def cg (K : PySem.W.Frag) : Cg := { T := none, cl := clA K, ecl := fun _ => 0, efl := fun _ => "" }
def small : List Nat := [0, 1, 2, 3, 4, 11, 12, 13, 14]
def Γ0 : Gm := { Γ with fn := fun f => if small.contains f then Γ.fn f else none, mt := fun _ => none, nw := fun _ => none }
def tb0 (f : Nat) : Fn := match f with
  | 0 => .ir a0.length N0.length f0 (Γ.fr 0)
  | 1 => .ir a1.length N1.length f1 (Γ.fr 1)
  | 2 => .ir a2.length N2.length f2 (Γ.fr 2)
  | 3 => .ir a3.length N3.length f3 (Γ.fr 3)
  | 4 => .ir a4.length N4.length f4 (Γ.fr 4)
  | 11 => .ir a11.length N11.length f11 (Γ.fr 11)
  | 12 => .ir a12.length N12.length f12 (Γ.fr 12)
  | 13 => .ir a13.length N13.length f13 (Γ.fr 13)
  | 14 => .ir a14.length N14.length f14 (Γ.fr 14)
  | _ => .none
theorem kk0 : chkSs Γ0 N0 (defScope s0) f0 (defBody s0) = true := by decide +kernel
theorem kk1 : chkSs Γ0 N1 (defScope s1) f1 (defBody s1) = true := by decide +kernel
theorem kk2 : chkSs Γ0 N2 (defScope s2) f2 (defBody s2) = true := by decide +kernel
theorem kk3 : chkSs Γ0 N3 (defScope s3) f3 (defBody s3) = true := by decide +kernel
theorem kk4 : chkSs Γ0 N4 (defScope s4) f4 (defBody s4) = true := by decide +kernel
theorem kk11 : chkSs Γ0 N11 (defScope s11) f11 (defBody s11) = true := by decide +kernel
theorem kk12 : chkSs Γ0 N12 (defScope s12) f12 (defBody s12) = true := by decide +kernel
theorem kk13 : chkSs Γ0 N13 (defScope s13) f13 (defBody s13) = true := by decide +kernel
theorem kk14 : chkSs Γ0 N14 (defScope s14) f14 (defBody s14) = true := by decide +kernel
def N15 : List Str := ["self", "states", "buttons", "rows", "index", "row"]
def be1 : E := .call 11 (.cons (.rv 1) .nil)
def be2 : E := .call 11 (.cons (.rv 2) .nil)
def be3 : E := .call 14 (.cons (.rv 1) (.cons (.rv 2) (.cons (.rv 3) .nil)))
def bg1 : E := .bi .list (.cons (.rv 1) .nil)
def bg2 : E := .bi .list (.cons (.rv 2) .nil)
def bg3 : E := .dc true [5] (.tup (.cons (.sub (.rv 5) (.c (.int 0))) (.cons (.sub (.rv 5) (.c (.int 1))) .nil))) (.tup (.cons (.sub (.rv 5) (.c (.int 2))) (.cons (.sub (.rv 5) (.c (.int 3))) .nil))) (.n 5) (.l (.v 3)) .nop
def boxS : List D → DS → Out D := boxM Γ0 (callM Γ0 tb0 20) 7 "_states" "_buttons" "_table" be1 be2 be3 bg1 bg2 bg3
def Γ2 : Gm := { Γ with fn := fun f => if f = 55 then Γ.fn f else none, mt := fun _ => none, nw := fun _ => none }
def tb2 (f : Nat) : Fn := match f with
  | 55 => .ir a55.length N55.length f55 (Γ.fr 55)
  | _ => .none
def tlS : List D → DS → Out D := tlM Γ2 (callM Γ2 tb2 5) 55
def N57 : List Str := ["raw", "many", "one", "lists", "presses", "words", "here", "key"]
def a57 : List Str := ["raw", "many"]
theorem kq55 : chkSs Γ2 N55 (defScope s55) f55 (defBody s55) = true := by decide +kernel
def tb (f : Nat) : Fn := match f with
  | 0 => .ir a0.length N0.length f0 (Γ.fr 0)
  | 1 => .ir a1.length N1.length f1 (Γ.fr 1)
  | 2 => .ir a2.length N2.length f2 (Γ.fr 2)
  | 3 => .ir a3.length N3.length f3 (Γ.fr 3)
  | 4 => .ir a4.length N4.length f4 (Γ.fr 4)
  | 11 => .ir a11.length N11.length f11 (Γ.fr 11)
  | 12 => .ir a12.length N12.length f12 (Γ.fr 12)
  | 13 => .ir a13.length N13.length f13 (Γ.fr 13)
  | 14 => .ir a14.length N14.length f14 (Γ.fr 14)
  | 16 => .ir a16.length N16.length f16 (Γ.fr 16)
  | 17 => .ir a17.length N17.length f17 (Γ.fr 17)
  | 18 => .ir a18.length N18.length f18 (Γ.fr 18)
  | 19 => .ir a19.length N19.length f19 (Γ.fr 19)
  | 20 => .ir a20.length N20.length f20 (Γ.fr 20)
  | 21 => .ir a21.length N21.length f21 (Γ.fr 21)
  | 22 => .ir a22.length N22.length f22 (Γ.fr 22)
  | 23 => .ir a23.length N23.length f23 (Γ.fr 23)
  | 24 => .ir a24.length N24.length f24 (Γ.fr 24)
  | 25 => .ir a25.length N25.length f25 (Γ.fr 25)
  | 26 => .ir a26.length N26.length f26 (Γ.fr 26)
  | 27 => .ir a27.length N27.length f27 (Γ.fr 27)
  | 28 => .ir a28.length N28.length f28 (Γ.fr 28)
  | 29 => .ir a29.length N29.length f29 (Γ.fr 29)
  | 30 => .ir a30.length N30.length f30 (Γ.fr 30)
  | 31 => .ir a31.length N31.length f31 (Γ.fr 31)
  | 32 => .ir a32.length N32.length f32 (Γ.fr 32)
  | 33 => .ir a33.length N33.length f33 (Γ.fr 33)
  | 34 => .ir a34.length N34.length f34 (Γ.fr 34)
  | 35 => .ir a35.length N35.length f35 (Γ.fr 35)
  | 36 => .ir a36.length N36.length f36 (Γ.fr 36)
  | 37 => .ir a37.length N37.length f37 (Γ.fr 37)
  | 38 => .ir a38.length N38.length f38 (Γ.fr 38)
  | 39 => .ir a39.length N39.length f39 (Γ.fr 39)
  | 40 => .ir a40.length N40.length f40 (Γ.fr 40)
  | 43 => .ir a43.length N43.length f43 (Γ.fr 43)
  | 44 => .ir a44.length N44.length f44 (Γ.fr 44)
  | 45 => .ir a45.length N45.length f45 (Γ.fr 45)
  | 46 => .ir a46.length N46.length f46 (Γ.fr 46)
  | 47 => .ir a47.length N47.length f47 (Γ.fr 47)
  | 48 => .ir a48.length N48.length f48 (Γ.fr 48)
  | 49 => .ir a49.length N49.length f49 (Γ.fr 49)
  | 50 => .ir a50.length N50.length f50 (Γ.fr 50)
  | 51 => .ir a51.length N51.length f51 (Γ.fr 51)
  | 52 => .ir a52.length N52.length f52 (Γ.fr 52)
  | 53 => .ir a53.length N53.length f53 (Γ.fr 53)
  | 54 => .ir a54.length N54.length f54 (Γ.fr 54)
  | 55 => .ir a55.length N55.length f55 (Γ.fr 55)
  | 56 => .ir a56.length N56.length f56 (Γ.fr 56)
  | 15 => .prim 3 (20 + 1 + 1 + 1) boxS
  | 42 => .prim 2 1 pickF
  | 57 => .prim 2 9 tlS
  | _ => .none
theorem clsOk {K : PySem.W.Frag} (c : He.SaysD fa fn K) (b : myB K = true) (Γ1 : Gm) (h1 : Γ1.cat = Γ.cat) (T : Option (Addr × Addr)) : ClsOk Γ1 { (cg K).toCf with T := T } K 7 := by
  unfold myB at b
  simp only [Bool.and_eq_true] at b
  obtain ⟨⟨b1, b2⟩, b3⟩ := b
  unfold oneB at b3
  simp only [Bool.and_eq_true] at b3
  obtain ⟨⟨⟨⟨b4, b5⟩, b6⟩, b7⟩, b8⟩ := b3
  refine ⟨He.cls_ok (c.fact 64 (f := .cls "Box") rfl), of_decide_eq_true b4, of_decide_eq_true b1, (of_decide_eq_true b2).symm, of_decide_eq_true b5, fun n hn => of_decide_eq_true (List.all_eq_true.mp b6 n hn), of_decide_eq_true b7, fun n hn => of_decide_eq_true (List.all_eq_true.mp b8 n hn), fun x hx => ?_⟩
  rw [h1] at hx
  have hx : x ∈ (["_states", "_buttons", "_table"] : List Str) := hx
  simp only [List.mem_cons, List.mem_nil_iff, or_false] at hx
  rcases hx with rfl | rfl | rfl
  · exact He.noat_ok (c.fact 66 (f := .noat "Box" "_states") rfl)
  · exact He.noat_ok (c.fact 67 (f := .noat "Box" "_buttons") rfl)
  · exact He.noat_ok (c.fact 68 (f := .noat "Box" "_table") rfl)
section
variable {P : Program} {w : World} {K : PySem.W.Frag} {h : Heap} {mg : Str → Option Value} {base : Heap} (X : K.In h) (G : h.Ns mainGlobals mg) (c : He.SaysD fa fn K) (b : myB K = true)
include X G c
omit X G c in
theorem sc0 : FnScope N0 a0 (defScope s0) := ⟨rfl, rfl, rfl, by decide +kernel, rfl, by decide +kernel, by decide +kernel⟩
theorem src0 (T : Option (Addr × Addr)) : ∃ a fd ps, mg "is_list" = some (.ref a) ∧ PySem.W.keepIn K (.ref a) = true ∧ Binds K fd ps [] ∧ ps.length = ar 0 ∧ Src Γ { cg K with T := T } tb P w K mg base 0 a fd ps := by
  obtain ⟨fd, F⟩ := c.def_ 0 (d := d0) rfl
  exact ⟨_, fd, a0, He.glo_ok X G (c.fact 0 (f := .glo "is_list") rfl), F.kp, F.bindsN (fun _ _ _ _ _ _ us hl => match us, hl with | [_], _ => rfl), rfl, .ir F sc0 rfl k0⟩
theorem sr00 (T : Option (Addr × Addr)) : ∃ a fd ps, mg "is_list" = some (.ref a) ∧ PySem.W.keepIn K (.ref a) = true ∧ Binds K fd ps [] ∧ ps.length = ar 0 ∧ Src Γ0 { cg K with T := T } tb0 P w K mg base 0 a fd ps := by
  obtain ⟨fd, F⟩ := c.def_ 0 (d := d0) rfl
  exact ⟨_, fd, a0, He.glo_ok X G (c.fact 0 (f := .glo "is_list") rfl), F.kp, F.bindsN (fun _ _ _ _ _ _ us hl => match us, hl with | [_], _ => rfl), rfl, .ir F sc0 rfl kk0⟩
omit X G c in
theorem sc1 : FnScope N1 a1 (defScope s1) := ⟨rfl, rfl, rfl, by decide +kernel, rfl, by decide +kernel, by decide +kernel⟩
theorem src1 (T : Option (Addr × Addr)) : ∃ a fd ps, mg "is_row" = some (.ref a) ∧ PySem.W.keepIn K (.ref a) = true ∧ Binds K fd ps [] ∧ ps.length = ar 1 ∧ Src Γ { cg K with T := T } tb P w K mg base 1 a fd ps := by
  obtain ⟨fd, F⟩ := c.def_ 1 (d := d1) rfl
  exact ⟨_, fd, a1, He.glo_ok X G (c.fact 1 (f := .glo "is_row") rfl), F.kp, F.bindsN (fun _ _ _ _ _ _ us hl => match us, hl with | [_, _], _ => rfl), rfl, .ir F sc1 rfl k1⟩
theorem sr01 (T : Option (Addr × Addr)) : ∃ a fd ps, mg "is_row" = some (.ref a) ∧ PySem.W.keepIn K (.ref a) = true ∧ Binds K fd ps [] ∧ ps.length = ar 1 ∧ Src Γ0 { cg K with T := T } tb0 P w K mg base 1 a fd ps := by
  obtain ⟨fd, F⟩ := c.def_ 1 (d := d1) rfl
  exact ⟨_, fd, a1, He.glo_ok X G (c.fact 1 (f := .glo "is_row") rfl), F.kp, F.bindsN (fun _ _ _ _ _ _ us hl => match us, hl with | [_, _], _ => rfl), rfl, .ir F sc1 rfl kk1⟩
omit X G c in
theorem sc2 : FnScope N2 a2 (defScope s2) := ⟨rfl, rfl, rfl, by decide +kernel, rfl, by decide +kernel, by decide +kernel⟩
theorem src2 (T : Option (Addr × Addr)) : ∃ a fd ps, mg "is_text" = some (.ref a) ∧ PySem.W.keepIn K (.ref a) = true ∧ Binds K fd ps [] ∧ ps.length = ar 2 ∧ Src Γ { cg K with T := T } tb P w K mg base 2 a fd ps := by
  obtain ⟨fd, F⟩ := c.def_ 2 (d := d2) rfl
  exact ⟨_, fd, a2, He.glo_ok X G (c.fact 2 (f := .glo "is_text") rfl), F.kp, F.bindsN (fun _ _ _ _ _ _ us hl => match us, hl with | [_], _ => rfl), rfl, .ir F sc2 rfl k2⟩
theorem sr02 (T : Option (Addr × Addr)) : ∃ a fd ps, mg "is_text" = some (.ref a) ∧ PySem.W.keepIn K (.ref a) = true ∧ Binds K fd ps [] ∧ ps.length = ar 2 ∧ Src Γ0 { cg K with T := T } tb0 P w K mg base 2 a fd ps := by
  obtain ⟨fd, F⟩ := c.def_ 2 (d := d2) rfl
  exact ⟨_, fd, a2, He.glo_ok X G (c.fact 2 (f := .glo "is_text") rfl), F.kp, F.bindsN (fun _ _ _ _ _ _ us hl => match us, hl with | [_], _ => rfl), rfl, .ir F sc2 rfl kk2⟩
omit X G c in
theorem sc3 : FnScope N3 a3 (defScope s3) := ⟨rfl, rfl, rfl, by decide +kernel, rfl, by decide +kernel, by decide +kernel⟩
theorem src3 (T : Option (Addr × Addr)) : ∃ a fd ps, mg "is_letters" = some (.ref a) ∧ PySem.W.keepIn K (.ref a) = true ∧ Binds K fd ps [] ∧ ps.length = ar 3 ∧ Src Γ { cg K with T := T } tb P w K mg base 3 a fd ps := by
  obtain ⟨fd, F⟩ := c.def_ 3 (d := d3) rfl
  exact ⟨_, fd, a3, He.glo_ok X G (c.fact 3 (f := .glo "is_letters") rfl), F.kp, F.bindsN (fun _ _ _ _ _ _ us hl => match us, hl with | [_], _ => rfl), rfl, .ir F sc3 rfl k3⟩
theorem sr03 (T : Option (Addr × Addr)) : ∃ a fd ps, mg "is_letters" = some (.ref a) ∧ PySem.W.keepIn K (.ref a) = true ∧ Binds K fd ps [] ∧ ps.length = ar 3 ∧ Src Γ0 { cg K with T := T } tb0 P w K mg base 3 a fd ps := by
  obtain ⟨fd, F⟩ := c.def_ 3 (d := d3) rfl
  exact ⟨_, fd, a3, He.glo_ok X G (c.fact 3 (f := .glo "is_letters") rfl), F.kp, F.bindsN (fun _ _ _ _ _ _ us hl => match us, hl with | [_], _ => rfl), rfl, .ir F sc3 rfl kk3⟩
omit X G c in
theorem sc4 : FnScope N4 a4 (defScope s4) := ⟨rfl, rfl, rfl, by decide +kernel, rfl, by decide +kernel, by decide +kernel⟩
theorem src4 (T : Option (Addr × Addr)) : ∃ a fd ps, mg "is_word" = some (.ref a) ∧ PySem.W.keepIn K (.ref a) = true ∧ Binds K fd ps [] ∧ ps.length = ar 4 ∧ Src Γ { cg K with T := T } tb P w K mg base 4 a fd ps := by
  obtain ⟨fd, F⟩ := c.def_ 4 (d := d4) rfl
  exact ⟨_, fd, a4, He.glo_ok X G (c.fact 4 (f := .glo "is_word") rfl), F.kp, F.bindsN (fun _ _ _ _ _ _ us hl => match us, hl with | [_], _ => rfl), rfl, .ir F sc4 rfl k4⟩
theorem sr04 (T : Option (Addr × Addr)) : ∃ a fd ps, mg "is_word" = some (.ref a) ∧ PySem.W.keepIn K (.ref a) = true ∧ Binds K fd ps [] ∧ ps.length = ar 4 ∧ Src Γ0 { cg K with T := T } tb0 P w K mg base 4 a fd ps := by
  obtain ⟨fd, F⟩ := c.def_ 4 (d := d4) rfl
  exact ⟨_, fd, a4, He.glo_ok X G (c.fact 4 (f := .glo "is_word") rfl), F.kp, F.bindsN (fun _ _ _ _ _ _ us hl => match us, hl with | [_], _ => rfl), rfl, .ir F sc4 rfl kk4⟩
omit X G c in
theorem sc11 : FnScope N11 a11 (defScope s11) := ⟨rfl, rfl, rfl, by decide +kernel, rfl, by decide +kernel, by decide +kernel⟩
theorem src11 (T : Option (Addr × Addr)) : ∃ a fd ps, mg "wrong_names" = some (.ref a) ∧ PySem.W.keepIn K (.ref a) = true ∧ Binds K fd ps [] ∧ ps.length = ar 11 ∧ Src Γ { cg K with T := T } tb P w K mg base 11 a fd ps := by
  obtain ⟨fd, F⟩ := c.def_ 11 (d := d11) rfl
  exact ⟨_, fd, a11, He.glo_ok X G (c.fact 5 (f := .glo "wrong_names") rfl), F.kp, F.bindsN (fun _ _ _ _ _ _ us hl => match us, hl with | [_], _ => rfl), rfl, .ir F sc11 rfl k11⟩
theorem sr011 (T : Option (Addr × Addr)) : ∃ a fd ps, mg "wrong_names" = some (.ref a) ∧ PySem.W.keepIn K (.ref a) = true ∧ Binds K fd ps [] ∧ ps.length = ar 11 ∧ Src Γ0 { cg K with T := T } tb0 P w K mg base 11 a fd ps := by
  obtain ⟨fd, F⟩ := c.def_ 11 (d := d11) rfl
  exact ⟨_, fd, a11, He.glo_ok X G (c.fact 5 (f := .glo "wrong_names") rfl), F.kp, F.bindsN (fun _ _ _ _ _ _ us hl => match us, hl with | [_], _ => rfl), rfl, .ir F sc11 rfl kk11⟩
omit X G c in
theorem sc12 : FnScope N12 a12 (defScope s12) := ⟨rfl, rfl, rfl, by decide +kernel, rfl, by decide +kernel, by decide +kernel⟩
theorem src12 (T : Option (Addr × Addr)) : ∃ a fd ps, mg "is_one_of" = some (.ref a) ∧ PySem.W.keepIn K (.ref a) = true ∧ Binds K fd ps [] ∧ ps.length = ar 12 ∧ Src Γ { cg K with T := T } tb P w K mg base 12 a fd ps := by
  obtain ⟨fd, F⟩ := c.def_ 12 (d := d12) rfl
  exact ⟨_, fd, a12, He.glo_ok X G (c.fact 6 (f := .glo "is_one_of") rfl), F.kp, F.bindsN (fun _ _ _ _ _ _ us hl => match us, hl with | [_, _], _ => rfl), rfl, .ir F sc12 rfl k12⟩
theorem sr012 (T : Option (Addr × Addr)) : ∃ a fd ps, mg "is_one_of" = some (.ref a) ∧ PySem.W.keepIn K (.ref a) = true ∧ Binds K fd ps [] ∧ ps.length = ar 12 ∧ Src Γ0 { cg K with T := T } tb0 P w K mg base 12 a fd ps := by
  obtain ⟨fd, F⟩ := c.def_ 12 (d := d12) rfl
  exact ⟨_, fd, a12, He.glo_ok X G (c.fact 6 (f := .glo "is_one_of") rfl), F.kp, F.bindsN (fun _ _ _ _ _ _ us hl => match us, hl with | [_, _], _ => rfl), rfl, .ir F sc12 rfl kk12⟩
omit X G c in
theorem sc13 : FnScope N13 a13 (defScope s13) := ⟨rfl, rfl, rfl, by decide +kernel, rfl, by decide +kernel, by decide +kernel⟩
theorem src13 (T : Option (Addr × Addr)) : ∃ a fd ps, mg "is_row_in" = some (.ref a) ∧ PySem.W.keepIn K (.ref a) = true ∧ Binds K fd ps [] ∧ ps.length = ar 13 ∧ Src Γ { cg K with T := T } tb P w K mg base 13 a fd ps := by
  obtain ⟨fd, F⟩ := c.def_ 13 (d := d13) rfl
  exact ⟨_, fd, a13, He.glo_ok X G (c.fact 7 (f := .glo "is_row_in") rfl), F.kp, F.bindsN (fun _ _ _ _ _ _ us hl => match us, hl with | [_, _, _], _ => rfl), rfl, .ir F sc13 rfl k13⟩
theorem sr013 (T : Option (Addr × Addr)) : ∃ a fd ps, mg "is_row_in" = some (.ref a) ∧ PySem.W.keepIn K (.ref a) = true ∧ Binds K fd ps [] ∧ ps.length = ar 13 ∧ Src Γ0 { cg K with T := T } tb0 P w K mg base 13 a fd ps := by
  obtain ⟨fd, F⟩ := c.def_ 13 (d := d13) rfl
  exact ⟨_, fd, a13, He.glo_ok X G (c.fact 7 (f := .glo "is_row_in") rfl), F.kp, F.bindsN (fun _ _ _ _ _ _ us hl => match us, hl with | [_, _, _], _ => rfl), rfl, .ir F sc13 rfl kk13⟩
omit X G c in
theorem sc14 : FnScope N14 a14 (defScope s14) := ⟨rfl, rfl, rfl, by decide +kernel, rfl, by decide +kernel, by decide +kernel⟩
theorem src14 (T : Option (Addr × Addr)) : ∃ a fd ps, mg "wrong_rows" = some (.ref a) ∧ PySem.W.keepIn K (.ref a) = true ∧ Binds K fd ps [] ∧ ps.length = ar 14 ∧ Src Γ { cg K with T := T } tb P w K mg base 14 a fd ps := by
  obtain ⟨fd, F⟩ := c.def_ 14 (d := d14) rfl
  exact ⟨_, fd, a14, He.glo_ok X G (c.fact 8 (f := .glo "wrong_rows") rfl), F.kp, F.bindsN (fun _ _ _ _ _ _ us hl => match us, hl with | [_, _, _], _ => rfl), rfl, .ir F sc14 rfl k14⟩
theorem sr014 (T : Option (Addr × Addr)) : ∃ a fd ps, mg "wrong_rows" = some (.ref a) ∧ PySem.W.keepIn K (.ref a) = true ∧ Binds K fd ps [] ∧ ps.length = ar 14 ∧ Src Γ0 { cg K with T := T } tb0 P w K mg base 14 a fd ps := by
  obtain ⟨fd, F⟩ := c.def_ 14 (d := d14) rfl
  exact ⟨_, fd, a14, He.glo_ok X G (c.fact 8 (f := .glo "wrong_rows") rfl), F.kp, F.bindsN (fun _ _ _ _ _ _ us hl => match us, hl with | [_, _, _], _ => rfl), rfl, .ir F sc14 rfl kk14⟩
omit X G c in
theorem sc16 : FnScope N16 a16 (defScope s16) := ⟨rfl, rfl, rfl, by decide +kernel, rfl, by decide +kernel, by decide +kernel⟩
theorem src16 (T : Option (Addr × Addr)) : ∃ a fd ps, (Γ.cls 7).isSome = true ∧ Meth K (({ cg K with T := T } : Cg).cl 7) "states" a ∧ Binds K fd ps [] ∧ ps.length = ar 16 ∧ Src Γ { cg K with T := T } tb P w K mg base 16 a fd ps := by
  obtain ⟨fd, F⟩ := c.def_ 16 (d := d16) rfl
  exact ⟨_, fd, a16, rfl, He.meth_ok (c.fact 69 (f := .meth "Box" "states") rfl), F.bindsN (fun _ _ _ _ _ _ us hl => match us, hl with | [_], _ => rfl), rfl, .ir F sc16 rfl k16⟩
omit X G c in
theorem sc17 : FnScope N17 a17 (defScope s17) := ⟨rfl, rfl, rfl, by decide +kernel, rfl, by decide +kernel, by decide +kernel⟩
theorem src17 (T : Option (Addr × Addr)) : ∃ a fd ps, (Γ.cls 7).isSome = true ∧ Meth K (({ cg K with T := T } : Cg).cl 7) "buttons" a ∧ Binds K fd ps [] ∧ ps.length = ar 17 ∧ Src Γ { cg K with T := T } tb P w K mg base 17 a fd ps := by
  obtain ⟨fd, F⟩ := c.def_ 17 (d := d17) rfl
  exact ⟨_, fd, a17, rfl, He.meth_ok (c.fact 70 (f := .meth "Box" "buttons") rfl), F.bindsN (fun _ _ _ _ _ _ us hl => match us, hl with | [_], _ => rfl), rfl, .ir F sc17 rfl k17⟩
omit X G c in
theorem sc18 : FnScope N18 a18 (defScope s18) := ⟨rfl, rfl, rfl, by decide +kernel, rfl, by decide +kernel, by decide +kernel⟩
theorem src18 (T : Option (Addr × Addr)) : ∃ a fd ps, (Γ.cls 7).isSome = true ∧ Meth K (({ cg K with T := T } : Cg).cl 7) "looked_up" a ∧ Binds K fd ps [] ∧ ps.length = ar 18 ∧ Src Γ { cg K with T := T } tb P w K mg base 18 a fd ps := by
  obtain ⟨fd, F⟩ := c.def_ 18 (d := d18) rfl
  exact ⟨_, fd, a18, rfl, He.meth_ok (c.fact 71 (f := .meth "Box" "looked_up") rfl), F.bindsN (fun _ _ _ _ _ _ us hl => match us, hl with | [_, _, _], _ => rfl), rfl, .ir F sc18 rfl k18⟩
omit X G c in
theorem sc19 : FnScope N19 a19 (defScope s19) := ⟨rfl, rfl, rfl, by decide +kernel, rfl, by decide +kernel, by decide +kernel⟩
theorem src19 (T : Option (Addr × Addr)) : ∃ a fd ps, (Γ.cls 7).isSome = true ∧ Meth K (({ cg K with T := T } : Cg).cl 7) "rows" a ∧ Binds K fd ps [] ∧ ps.length = ar 19 ∧ Src Γ { cg K with T := T } tb P w K mg base 19 a fd ps := by
  obtain ⟨fd, F⟩ := c.def_ 19 (d := d19) rfl
  exact ⟨_, fd, a19, rfl, He.meth_ok (c.fact 72 (f := .meth "Box" "rows") rfl), F.bindsN (fun _ _ _ _ _ _ us hl => match us, hl with | [_], _ => rfl), rfl, .ir F sc19 rfl k19⟩
omit X G c in
theorem sc20 : FnScope N20 a20 (defScope s20) := ⟨rfl, rfl, rfl, by decide +kernel, rfl, by decide +kernel, by decide +kernel⟩
theorem src20 (T : Option (Addr × Addr)) : ∃ a fd ps, (Γ.cls 7).isSome = true ∧ Meth K (({ cg K with T := T } : Cg).cl 7) "__eq__" a ∧ Binds K fd ps [] ∧ ps.length = ar 20 ∧ Src Γ { cg K with T := T } tb P w K mg base 20 a fd ps := by
  obtain ⟨fd, F⟩ := c.def_ 20 (d := d20) rfl
  exact ⟨_, fd, a20, rfl, He.meth_ok (c.fact 73 (f := .meth "Box" "__eq__") rfl), F.bindsN (fun _ _ _ _ _ _ us hl => match us, hl with | [_, _], _ => rfl), rfl, .ir F sc20 rfl k20⟩
omit X G c in
theorem sc21 : FnScope N21 a21 (defScope s21) := ⟨rfl, rfl, rfl, by decide +kernel, rfl, by decide +kernel, by decide +kernel⟩
theorem src21 (T : Option (Addr × Addr)) : ∃ a fd ps, mg "need_box" = some (.ref a) ∧ PySem.W.keepIn K (.ref a) = true ∧ Binds K fd ps [] ∧ ps.length = ar 21 ∧ Src Γ { cg K with T := T } tb P w K mg base 21 a fd ps := by
  obtain ⟨fd, F⟩ := c.def_ 21 (d := d21) rfl
  exact ⟨_, fd, a21, He.glo_ok X G (c.fact 9 (f := .glo "need_box") rfl), F.kp, F.bindsN (fun _ _ _ _ _ _ us hl => match us, hl with | [_], _ => rfl), rfl, .ir F sc21 rfl k21⟩
omit X G c in
theorem sc22 : FnScope N22 a22 (defScope s22) := ⟨rfl, rfl, rfl, by decide +kernel, rfl, by decide +kernel, by decide +kernel⟩
theorem src22 (T : Option (Addr × Addr)) : ∃ a fd ps, mg "check_state" = some (.ref a) ∧ PySem.W.keepIn K (.ref a) = true ∧ Binds K fd ps [] ∧ ps.length = ar 22 ∧ Src Γ { cg K with T := T } tb P w K mg base 22 a fd ps := by
  obtain ⟨fd, F⟩ := c.def_ 22 (d := d22) rfl
  exact ⟨_, fd, a22, He.glo_ok X G (c.fact 10 (f := .glo "check_state") rfl), F.kp, F.bindsN (fun _ _ _ _ _ _ us hl => match us, hl with | [_, _], _ => rfl), rfl, .ir F sc22 rfl k22⟩
omit X G c in
theorem sc23 : FnScope N23 a23 (defScope s23) := ⟨rfl, rfl, rfl, by decide +kernel, rfl, by decide +kernel, by decide +kernel⟩
theorem src23 (T : Option (Addr × Addr)) : ∃ a fd ps, mg "need_state" = some (.ref a) ∧ PySem.W.keepIn K (.ref a) = true ∧ Binds K fd ps [] ∧ ps.length = ar 23 ∧ Src Γ { cg K with T := T } tb P w K mg base 23 a fd ps := by
  obtain ⟨fd, F⟩ := c.def_ 23 (d := d23) rfl
  exact ⟨_, fd, a23, He.glo_ok X G (c.fact 11 (f := .glo "need_state") rfl), F.kp, F.bindsN (fun _ _ _ _ _ _ us hl => match us, hl with | [_, _], _ => rfl), rfl, .ir F sc23 rfl k23⟩
omit X G c in
theorem sc24 : FnScope N24 a24 (defScope s24) := ⟨rfl, rfl, rfl, by decide +kernel, rfl, by decide +kernel, by decide +kernel⟩
theorem src24 (T : Option (Addr × Addr)) : ∃ a fd ps, mg "are_presses" = some (.ref a) ∧ PySem.W.keepIn K (.ref a) = true ∧ Binds K fd ps [] ∧ ps.length = ar 24 ∧ Src Γ { cg K with T := T } tb P w K mg base 24 a fd ps := by
  obtain ⟨fd, F⟩ := c.def_ 24 (d := d24) rfl
  exact ⟨_, fd, a24, He.glo_ok X G (c.fact 12 (f := .glo "are_presses") rfl), F.kp, F.bindsN (fun _ _ _ _ _ _ us hl => match us, hl with | [_, _], _ => rfl), rfl, .ir F sc24 rfl k24⟩
omit X G c in
theorem sc25 : FnScope N25 a25 (defScope s25) := ⟨rfl, rfl, rfl, by decide +kernel, rfl, by decide +kernel, by decide +kernel⟩
theorem src25 (T : Option (Addr × Addr)) : ∃ a fd ps, mg "check_presses" = some (.ref a) ∧ PySem.W.keepIn K (.ref a) = true ∧ Binds K fd ps [] ∧ ps.length = ar 25 ∧ Src Γ { cg K with T := T } tb P w K mg base 25 a fd ps := by
  obtain ⟨fd, F⟩ := c.def_ 25 (d := d25) rfl
  exact ⟨_, fd, a25, He.glo_ok X G (c.fact 13 (f := .glo "check_presses") rfl), F.kp, F.bindsN (fun _ _ _ _ _ _ us hl => match us, hl with | [_, _], _ => rfl), rfl, .ir F sc25 rfl k25⟩
omit X G c in
theorem sc26 : FnScope N26 a26 (defScope s26) := ⟨rfl, rfl, rfl, by decide +kernel, rfl, by decide +kernel, by decide +kernel⟩
theorem src26 (T : Option (Addr × Addr)) : ∃ a fd ps, mg "need_presses" = some (.ref a) ∧ PySem.W.keepIn K (.ref a) = true ∧ Binds K fd ps [] ∧ ps.length = ar 26 ∧ Src Γ { cg K with T := T } tb P w K mg base 26 a fd ps := by
  obtain ⟨fd, F⟩ := c.def_ 26 (d := d26) rfl
  exact ⟨_, fd, a26, He.glo_ok X G (c.fact 14 (f := .glo "need_presses") rfl), F.kp, F.bindsN (fun _ _ _ _ _ _ us hl => match us, hl with | [_, _, _], _ => rfl), rfl, .ir F sc26 rfl k26⟩
omit X G c in
theorem sc27 : FnScope N27 a27 (defScope s27) := ⟨rfl, rfl, rfl, by decide +kernel, rfl, by decide +kernel, by decide +kernel⟩
theorem src27 (T : Option (Addr × Addr)) : ∃ a fd ps, mg "played" = some (.ref a) ∧ PySem.W.keepIn K (.ref a) = true ∧ Binds K fd ps [] ∧ ps.length = ar 27 ∧ Src Γ { cg K with T := T } tb P w K mg base 27 a fd ps := by
  obtain ⟨fd, F⟩ := c.def_ 27 (d := d27) rfl
  exact ⟨_, fd, a27, He.glo_ok X G (c.fact 15 (f := .glo "played") rfl), F.kp, F.bindsN (fun _ _ _ _ _ _ us hl => match us, hl with | [_, _, _], _ => rfl), rfl, .ir F sc27 rfl k27⟩
omit X G c in
theorem sc28 : FnScope N28 a28 (defScope s28) := ⟨rfl, rfl, rfl, by decide +kernel, rfl, by decide +kernel, by decide +kernel⟩
theorem src28 (T : Option (Addr × Addr)) : ∃ a fd ps, mg "shown" = some (.ref a) ∧ PySem.W.keepIn K (.ref a) = true ∧ Binds K fd ps [] ∧ ps.length = ar 28 ∧ Src Γ { cg K with T := T } tb P w K mg base 28 a fd ps := by
  obtain ⟨fd, F⟩ := c.def_ 28 (d := d28) rfl
  exact ⟨_, fd, a28, He.glo_ok X G (c.fact 16 (f := .glo "shown") rfl), F.kp, F.bindsN (fun _ _ _ _ _ _ us hl => match us, hl with | [_, _, _], _ => rfl), rfl, .ir F sc28 rfl k28⟩
omit X G c in
theorem sc29 : FnScope N29 a29 (defScope s29) := ⟨rfl, rfl, rfl, by decide +kernel, rfl, by decide +kernel, by decide +kernel⟩
theorem src29 (T : Option (Addr × Addr)) : ∃ a fd ps, mg "after" = some (.ref a) ∧ PySem.W.keepIn K (.ref a) = true ∧ Binds K fd ps [] ∧ ps.length = ar 29 ∧ Src Γ { cg K with T := T } tb P w K mg base 29 a fd ps := by
  obtain ⟨fd, F⟩ := c.def_ 29 (d := d29) rfl
  exact ⟨_, fd, a29, He.glo_ok X G (c.fact 17 (f := .glo "after") rfl), F.kp, F.bindsN (fun _ _ _ _ _ _ us hl => match us, hl with | [_, _, _], _ => rfl), rfl, .ir F sc29 rfl k29⟩
omit X G c in
theorem sc30 : FnScope N30 a30 (defScope s30) := ⟨rfl, rfl, rfl, by decide +kernel, rfl, by decide +kernel, by decide +kernel⟩
theorem src30 (T : Option (Addr × Addr)) : ∃ a fd ps, mg "pair_of" = some (.ref a) ∧ PySem.W.keepIn K (.ref a) = true ∧ Binds K fd ps [] ∧ ps.length = ar 30 ∧ Src Γ { cg K with T := T } tb P w K mg base 30 a fd ps := by
  obtain ⟨fd, F⟩ := c.def_ 30 (d := d30) rfl
  exact ⟨_, fd, a30, He.glo_ok X G (c.fact 18 (f := .glo "pair_of") rfl), F.kp, F.bindsN (fun _ _ _ _ _ _ us hl => match us, hl with | [_, _, _], _ => rfl), rfl, .ir F sc30 rfl k30⟩
omit X G c in
theorem sc31 : FnScope N31 a31 (defScope s31) := ⟨rfl, rfl, rfl, by decide +kernel, rfl, by decide +kernel, by decide +kernel⟩
theorem src31 (T : Option (Addr × Addr)) : ∃ a fd ps, mg "all_pairs" = some (.ref a) ∧ PySem.W.keepIn K (.ref a) = true ∧ Binds K fd ps [] ∧ ps.length = ar 31 ∧ Src Γ { cg K with T := T } tb P w K mg base 31 a fd ps := by
  obtain ⟨fd, F⟩ := c.def_ 31 (d := d31) rfl
  exact ⟨_, fd, a31, He.glo_ok X G (c.fact 19 (f := .glo "all_pairs") rfl), F.kp, F.bindsN (fun _ _ _ _ _ _ us hl => match us, hl with | [_], _ => rfl), rfl, .ir F sc31 rfl k31⟩
omit X G c in
theorem sc32 : FnScope N32 a32 (defScope s32) := ⟨rfl, rfl, rfl, by decide +kernel, rfl, by decide +kernel, by decide +kernel⟩
theorem src32 (T : Option (Addr × Addr)) : ∃ a fd ps, mg "first_twins" = some (.ref a) ∧ PySem.W.keepIn K (.ref a) = true ∧ Binds K fd ps [] ∧ ps.length = ar 32 ∧ Src Γ { cg K with T := T } tb P w K mg base 32 a fd ps := by
  obtain ⟨fd, F⟩ := c.def_ 32 (d := d32) rfl
  exact ⟨_, fd, a32, He.glo_ok X G (c.fact 20 (f := .glo "first_twins") rfl), F.kp, F.bindsN (fun _ _ _ _ _ _ us hl => match us, hl with | [_], _ => rfl), rfl, .ir F sc32 rfl k32⟩
omit X G c in
theorem sc33 : FnScope N33 a33 (defScope s33) := ⟨rfl, rfl, rfl, by decide +kernel, rfl, by decide +kernel, by decide +kernel⟩
theorem src33 (T : Option (Addr × Addr)) : ∃ a fd ps, mg "next_twins" = some (.ref a) ∧ PySem.W.keepIn K (.ref a) = true ∧ Binds K fd ps [] ∧ ps.length = ar 33 ∧ Src Γ { cg K with T := T } tb P w K mg base 33 a fd ps := by
  obtain ⟨fd, F⟩ := c.def_ 33 (d := d33) rfl
  exact ⟨_, fd, a33, He.glo_ok X G (c.fact 21 (f := .glo "next_twins") rfl), F.kp, F.bindsN (fun _ _ _ _ _ _ us hl => match us, hl with | [_, _, _], _ => rfl), rfl, .ir F sc33 rfl k33⟩
omit X G c in
theorem sc34 : FnScope N34 a34 (defScope s34) := ⟨rfl, rfl, rfl, by decide +kernel, rfl, by decide +kernel, by decide +kernel⟩
theorem src34 (T : Option (Addr × Addr)) : ∃ a fd ps, mg "lossless_answer" = some (.ref a) ∧ PySem.W.keepIn K (.ref a) = true ∧ Binds K fd ps [] ∧ ps.length = ar 34 ∧ Src Γ { cg K with T := T } tb P w K mg base 34 a fd ps := by
  obtain ⟨fd, F⟩ := c.def_ 34 (d := d34) rfl
  exact ⟨_, fd, a34, He.glo_ok X G (c.fact 22 (f := .glo "lossless_answer") rfl), F.kp, F.bindsN (fun _ _ _ _ _ _ us hl => match us, hl with | [_], _ => rfl), rfl, .ir F sc34 rfl k34⟩
omit X G c in
theorem sc35 : FnScope N35 a35 (defScope s35) := ⟨rfl, rfl, rfl, by decide +kernel, rfl, by decide +kernel, by decide +kernel⟩
theorem src35 (T : Option (Addr × Addr)) : ∃ a fd ps, mg "pairs_behind" = some (.ref a) ∧ PySem.W.keepIn K (.ref a) = true ∧ Binds K fd ps [] ∧ ps.length = ar 35 ∧ Src Γ { cg K with T := T } tb P w K mg base 35 a fd ps := by
  obtain ⟨fd, F⟩ := c.def_ 35 (d := d35) rfl
  exact ⟨_, fd, a35, He.glo_ok X G (c.fact 23 (f := .glo "pairs_behind") rfl), F.kp, F.bindsN (fun _ _ _ _ _ _ us hl => match us, hl with | [_, _], _ => rfl), rfl, .ir F sc35 rfl k35⟩
omit X G c in
theorem sc36 : FnScope N36 a36 (defScope s36) := ⟨rfl, rfl, rfl, by decide +kernel, rfl, by decide +kernel, by decide +kernel⟩
theorem src36 (T : Option (Addr × Addr)) : ∃ a fd ps, mg "first_pairs" = some (.ref a) ∧ PySem.W.keepIn K (.ref a) = true ∧ Binds K fd ps [] ∧ ps.length = ar 36 ∧ Src Γ { cg K with T := T } tb P w K mg base 36 a fd ps := by
  obtain ⟨fd, F⟩ := c.def_ 36 (d := d36) rfl
  exact ⟨_, fd, a36, He.glo_ok X G (c.fact 24 (f := .glo "first_pairs") rfl), F.kp, F.bindsN (fun _ _ _ _ _ _ us hl => match us, hl with | [_], _ => rfl), rfl, .ir F sc36 rfl k36⟩
omit X G c in
theorem sc37 : FnScope N37 a37 (defScope s37) := ⟨rfl, rfl, rfl, by decide +kernel, rfl, by decide +kernel, by decide +kernel⟩
theorem src37 (T : Option (Addr × Addr)) : ∃ a fd ps, mg "met_pairs" = some (.ref a) ∧ PySem.W.keepIn K (.ref a) = true ∧ Binds K fd ps [] ∧ ps.length = ar 37 ∧ Src Γ { cg K with T := T } tb P w K mg base 37 a fd ps := by
  obtain ⟨fd, F⟩ := c.def_ 37 (d := d37) rfl
  exact ⟨_, fd, a37, He.glo_ok X G (c.fact 25 (f := .glo "met_pairs") rfl), F.kp, F.bindsN (fun _ _ _ _ _ _ us hl => match us, hl with | [_], _ => rfl), rfl, .ir F sc37 rfl k37⟩
omit X G c in
theorem sc38 : FnScope N38 a38 (defScope s38) := ⟨rfl, rfl, rfl, by decide +kernel, rfl, by decide +kernel, by decide +kernel⟩
theorem src38 (T : Option (Addr × Addr)) : ∃ a fd ps, mg "peeled" = some (.ref a) ∧ PySem.W.keepIn K (.ref a) = true ∧ Binds K fd ps [] ∧ ps.length = ar 38 ∧ Src Γ { cg K with T := T } tb P w K mg base 38 a fd ps := by
  obtain ⟨fd, F⟩ := c.def_ 38 (d := d38) rfl
  exact ⟨_, fd, a38, He.glo_ok X G (c.fact 26 (f := .glo "peeled") rfl), F.kp, F.bindsN (fun _ _ _ _ _ _ us hl => match us, hl with | [_], _ => rfl), rfl, .ir F sc38 rfl k38⟩
omit X G c in
theorem sc39 : FnScope N39 a39 (defScope s39) := ⟨rfl, rfl, rfl, by decide +kernel, rfl, by decide +kernel, by decide +kernel⟩
theorem src39 (T : Option (Addr × Addr)) : ∃ a fd ps, mg "ranked" = some (.ref a) ∧ PySem.W.keepIn K (.ref a) = true ∧ Binds K fd ps [] ∧ ps.length = ar 39 ∧ Src Γ { cg K with T := T } tb P w K mg base 39 a fd ps := by
  obtain ⟨fd, F⟩ := c.def_ 39 (d := d39) rfl
  exact ⟨_, fd, a39, He.glo_ok X G (c.fact 27 (f := .glo "ranked") rfl), F.kp, F.bindsN (fun _ _ _ _ _ _ us hl => match us, hl with | [_], _ => rfl), rfl, .ir F sc39 rfl k39⟩
omit X G c in
theorem sc40 : FnScope N40 a40 (defScope s40) := ⟨rfl, rfl, rfl, by decide +kernel, rfl, by decide +kernel, by decide +kernel⟩
theorem src40 (T : Option (Addr × Addr)) : ∃ a fd ps, mg "least_delay" = some (.ref a) ∧ PySem.W.keepIn K (.ref a) = true ∧ Binds K fd ps [] ∧ ps.length = ar 40 ∧ Src Γ { cg K with T := T } tb P w K mg base 40 a fd ps := by
  obtain ⟨fd, F⟩ := c.def_ 40 (d := d40) rfl
  exact ⟨_, fd, a40, He.glo_ok X G (c.fact 28 (f := .glo "least_delay") rfl), F.kp, F.bindsN (fun _ _ _ _ _ _ us hl => match us, hl with | [_], _ => rfl), rfl, .ir F sc40 rfl k40⟩
omit X G c in
theorem sc43 : FnScope N43 a43 (defScope s43) := ⟨rfl, rfl, rfl, by decide +kernel, rfl, by decide +kernel, by decide +kernel⟩
theorem src43 (T : Option (Addr × Addr)) : ∃ a fd ps, mg "_law_between" = some (.ref a) ∧ PySem.W.keepIn K (.ref a) = true ∧ Binds K fd ps [] ∧ ps.length = ar 43 ∧ Src Γ { cg K with T := T } tb P w K mg base 43 a fd ps := by
  obtain ⟨fd, F⟩ := c.def_ 43 (d := d43) rfl
  exact ⟨_, fd, a43, He.glo_ok X G (c.fact 31 (f := .glo "_law_between") rfl), F.kp, F.bindsN (fun _ _ _ _ _ _ us hl => match us, hl with | [_, _, _], _ => rfl), rfl, .ir F sc43 rfl k43⟩
omit X G c in
theorem sc44 : FnScope N44 a44 (defScope s44) := ⟨rfl, rfl, rfl, by decide +kernel, rfl, by decide +kernel, by decide +kernel⟩
theorem src44 (T : Option (Addr × Addr)) : ∃ a fd ps, mg "_law_one" = some (.ref a) ∧ PySem.W.keepIn K (.ref a) = true ∧ Binds K fd ps [] ∧ ps.length = ar 44 ∧ Src Γ { cg K with T := T } tb P w K mg base 44 a fd ps := by
  obtain ⟨fd, F⟩ := c.def_ 44 (d := d44) rfl
  exact ⟨_, fd, a44, He.glo_ok X G (c.fact 32 (f := .glo "_law_one") rfl), F.kp, F.bindsN (fun _ _ _ _ _ _ us hl => match us, hl with | [_, _], _ => rfl), rfl, .ir F sc44 rfl k44⟩
omit X G c in
theorem sc45 : FnScope N45 a45 (defScope s45) := ⟨rfl, rfl, rfl, by decide +kernel, rfl, by decide +kernel, by decide +kernel⟩
theorem src45 (T : Option (Addr × Addr)) : ∃ a fd ps, mg "_law_mixed" = some (.ref a) ∧ PySem.W.keepIn K (.ref a) = true ∧ Binds K fd ps [] ∧ ps.length = ar 45 ∧ Src Γ { cg K with T := T } tb P w K mg base 45 a fd ps := by
  obtain ⟨fd, F⟩ := c.def_ 45 (d := d45) rfl
  exact ⟨_, fd, a45, He.glo_ok X G (c.fact 33 (f := .glo "_law_mixed") rfl), F.kp, F.bindsN (fun _ _ _ _ _ _ us hl => match us, hl with | [_, _], _ => rfl), rfl, .ir F sc45 rfl k45⟩
omit X G c in
theorem sc46 : FnScope N46 a46 (defScope s46) := ⟨rfl, rfl, rfl, by decide +kernel, rfl, by decide +kernel, by decide +kernel⟩
theorem src46 (T : Option (Addr × Addr)) : ∃ a fd ps, mg "_law_same" = some (.ref a) ∧ PySem.W.keepIn K (.ref a) = true ∧ Binds K fd ps [] ∧ ps.length = ar 46 ∧ Src Γ { cg K with T := T } tb P w K mg base 46 a fd ps := by
  obtain ⟨fd, F⟩ := c.def_ 46 (d := d46) rfl
  exact ⟨_, fd, a46, He.glo_ok X G (c.fact 34 (f := .glo "_law_same") rfl), F.kp, F.bindsN (fun _ _ _ _ _ _ us hl => match us, hl with | [_, _], _ => rfl), rfl, .ir F sc46 rfl k46⟩
omit X G c in
theorem sc47 : FnScope N47 a47 (defScope s47) := ⟨rfl, rfl, rfl, by decide +kernel, rfl, by decide +kernel, by decide +kernel⟩
theorem src47 (T : Option (Addr × Addr)) : ∃ a fd ps, mg "_law_copy" = some (.ref a) ∧ PySem.W.keepIn K (.ref a) = true ∧ Binds K fd ps [] ∧ ps.length = ar 47 ∧ Src Γ { cg K with T := T } tb P w K mg base 47 a fd ps := by
  obtain ⟨fd, F⟩ := c.def_ 47 (d := d47) rfl
  exact ⟨_, fd, a47, He.glo_ok X G (c.fact 35 (f := .glo "_law_copy") rfl), F.kp, F.bindsN (fun _ _ _ _ _ _ us hl => match us, hl with | [_], _ => rfl), rfl, .ir F sc47 rfl k47⟩
omit X G c in
theorem sc48 : FnScope N48 a48 (defScope s48) := ⟨rfl, rfl, rfl, by decide +kernel, rfl, by decide +kernel, by decide +kernel⟩
theorem src48 (T : Option (Addr × Addr)) : ∃ a fd ps, mg "_law_is_number" = some (.ref a) ∧ PySem.W.keepIn K (.ref a) = true ∧ Binds K fd ps [] ∧ ps.length = ar 48 ∧ Src Γ { cg K with T := T } tb P w K mg base 48 a fd ps := by
  obtain ⟨fd, F⟩ := c.def_ 48 (d := d48) rfl
  exact ⟨_, fd, a48, He.glo_ok X G (c.fact 36 (f := .glo "_law_is_number") rfl), F.kp, F.bindsN (fun _ _ _ _ _ _ us hl => match us, hl with | [_], _ => rfl), rfl, .ir F sc48 rfl k48⟩
omit X G c in
theorem sc49 : FnScope N49 a49 (defScope s49) := ⟨rfl, rfl, rfl, by decide +kernel, rfl, by decide +kernel, by decide +kernel⟩
theorem src49 (T : Option (Addr × Addr)) : ∃ a fd ps, mg "_law_free_word" = some (.ref a) ∧ PySem.W.keepIn K (.ref a) = true ∧ Binds K fd ps [] ∧ ps.length = ar 49 ∧ Src Γ { cg K with T := T } tb P w K mg base 49 a fd ps := by
  obtain ⟨fd, F⟩ := c.def_ 49 (d := d49) rfl
  exact ⟨_, fd, a49, He.glo_ok X G (c.fact 37 (f := .glo "_law_free_word") rfl), F.kp, F.bindsN (fun _ _ _ _ _ _ us hl => match us, hl with | [_, _], _ => rfl), rfl, .ir F sc49 rfl k49⟩
omit X G c in
theorem sc50 : FnScope N50 a50 (defScope s50) := ⟨rfl, rfl, rfl, by decide +kernel, rfl, by decide +kernel, by decide +kernel⟩
theorem src50 (T : Option (Addr × Addr)) : ∃ a fd ps, mg "_law_words" = some (.ref a) ∧ PySem.W.keepIn K (.ref a) = true ∧ Binds K fd ps [] ∧ ps.length = ar 50 ∧ Src Γ { cg K with T := T } tb P w K mg base 50 a fd ps := by
  obtain ⟨fd, F⟩ := c.def_ 50 (d := d50) rfl
  exact ⟨_, fd, a50, He.glo_ok X G (c.fact 38 (f := .glo "_law_words") rfl), F.kp, F.bindsN (fun _ _ _ _ _ _ us hl => match us, hl with | [_, _], _ => rfl), rfl, .ir F sc50 rfl k50⟩
omit X G c in
theorem sc51 : FnScope N51 a51 (defScope s51) := ⟨rfl, rfl, rfl, by decide +kernel, rfl, by decide +kernel, by decide +kernel⟩
theorem src51 (T : Option (Addr × Addr)) : ∃ a fd ps, mg "_law_box_of" = some (.ref a) ∧ PySem.W.keepIn K (.ref a) = true ∧ Binds K fd ps [] ∧ ps.length = ar 51 ∧ Src Γ { cg K with T := T } tb P w K mg base 51 a fd ps := by
  obtain ⟨fd, F⟩ := c.def_ 51 (d := d51) rfl
  exact ⟨_, fd, a51, He.glo_ok X G (c.fact 39 (f := .glo "_law_box_of") rfl), F.kp, F.bindsN (fun _ _ _ _ _ _ us hl => match us, hl with | [_], _ => rfl), rfl, .ir F sc51 rfl k51⟩
omit X G c in
theorem sc52 : FnScope N52 a52 (defScope s52) := ⟨rfl, rfl, rfl, by decide +kernel, rfl, by decide +kernel, by decide +kernel⟩
theorem src52 (T : Option (Addr × Addr)) : ∃ a fd ps, mg "_law_nexts" = some (.ref a) ∧ PySem.W.keepIn K (.ref a) = true ∧ Binds K fd ps [] ∧ ps.length = ar 52 ∧ Src Γ { cg K with T := T } tb P w K mg base 52 a fd ps := by
  obtain ⟨fd, F⟩ := c.def_ 52 (d := d52) rfl
  exact ⟨_, fd, a52, He.glo_ok X G (c.fact 40 (f := .glo "_law_nexts") rfl), F.kp, F.bindsN (fun _ _ _ _ _ _ us hl => match us, hl with | [_, _, _], _ => rfl), rfl, .ir F sc52 rfl k52⟩
omit X G c in
theorem sc53 : FnScope N53 a53 (defScope s53) := ⟨rfl, rfl, rfl, by decide +kernel, rfl, by decide +kernel, by decide +kernel⟩
theorem src53 (T : Option (Addr × Addr)) : ∃ a fd ps, mg "_law_draw_box" = some (.ref a) ∧ PySem.W.keepIn K (.ref a) = true ∧ Binds K fd ps [] ∧ ps.length = ar 53 ∧ Src Γ { cg K with T := T } tb P w K mg base 53 a fd ps := by
  obtain ⟨fd, F⟩ := c.def_ 53 (d := d53) rfl
  exact ⟨_, fd, a53, He.glo_ok X G (c.fact 41 (f := .glo "_law_draw_box") rfl), F.kp, F.bindsN (fun _ _ _ _ _ _ us hl => match us, hl with | [_, _, _, _], _ => rfl), rfl, .ir F sc53 rfl k53⟩
omit X G c in
theorem sc54 : FnScope N54 a54 (defScope s54) := ⟨rfl, rfl, rfl, by decide +kernel, rfl, by decide +kernel, by decide +kernel⟩
theorem src54 (T : Option (Addr × Addr)) : ∃ a fd ps, mg "_law_sorted_rows" = some (.ref a) ∧ PySem.W.keepIn K (.ref a) = true ∧ Binds K fd ps [] ∧ ps.length = ar 54 ∧ Src Γ { cg K with T := T } tb P w K mg base 54 a fd ps := by
  obtain ⟨fd, F⟩ := c.def_ 54 (d := d54) rfl
  exact ⟨_, fd, a54, He.glo_ok X G (c.fact 42 (f := .glo "_law_sorted_rows") rfl), F.kp, F.bindsN (fun _ _ _ _ _ _ us hl => match us, hl with | [_], _ => rfl), rfl, .ir F sc54 rfl k54⟩
omit X G c in
theorem sc55 : FnScope N55 a55 (defScope s55) := ⟨rfl, rfl, rfl, by decide +kernel, rfl, by decide +kernel, by decide +kernel⟩
theorem src55 (T : Option (Addr × Addr)) : ∃ a fd ps, mg "_law_all_presses" = some (.ref a) ∧ PySem.W.keepIn K (.ref a) = true ∧ Binds K fd ps [] ∧ ps.length = ar 55 ∧ Src Γ { cg K with T := T } tb P w K mg base 55 a fd ps := by
  obtain ⟨fd, F⟩ := c.def_ 55 (d := d55) rfl
  exact ⟨_, fd, a55, He.glo_ok X G (c.fact 43 (f := .glo "_law_all_presses") rfl), F.kp, F.bindsN (fun _ _ _ _ _ _ us hl => match us, hl with | [_, _, _], _ => rfl), rfl, .ir F sc55 rfl k55⟩
theorem sr255 (T : Option (Addr × Addr)) : ∃ a fd ps, mg "_law_all_presses" = some (.ref a) ∧ PySem.W.keepIn K (.ref a) = true ∧ Binds K fd ps [] ∧ ps.length = ar 55 ∧ Src Γ2 { cg K with T := T } tb2 P w K mg base 55 a fd ps := by
  obtain ⟨fd, F⟩ := c.def_ 55 (d := d55) rfl
  exact ⟨_, fd, a55, He.glo_ok X G (c.fact 43 (f := .glo "_law_all_presses") rfl), F.kp, F.bindsN (fun _ _ _ _ _ _ us hl => match us, hl with | [_, _, _], _ => rfl), rfl, .ir F sc55 rfl kq55⟩
omit X G c in
theorem sc56 : FnScope N56 a56 (defScope s56) := ⟨rfl, rfl, rfl, by decide +kernel, rfl, by decide +kernel, by decide +kernel⟩
theorem src56 (T : Option (Addr × Addr)) : ∃ a fd ps, mg "_law_two_firsts" = some (.ref a) ∧ PySem.W.keepIn K (.ref a) = true ∧ Binds K fd ps [] ∧ ps.length = ar 56 ∧ Src Γ { cg K with T := T } tb P w K mg base 56 a fd ps := by
  obtain ⟨fd, F⟩ := c.def_ 56 (d := d56) rfl
  exact ⟨_, fd, a56, He.glo_ok X G (c.fact 44 (f := .glo "_law_two_firsts") rfl), F.kp, F.bindsN (fun _ _ _ _ _ _ us hl => match us, hl with | [_, _], _ => rfl), rfl, .ir F sc56 rfl k56⟩
end
end K94
end
section
set_option Elab.async false
set_option linter.all false
set_option maxRecDepth 100000
set_option maxHeartbeats 0
namespace K94
open L2 IR PySem PySem.Spec PyProof.Rows
section
variable {P : Program} {w : World} {K : PySem.W.Frag} {h : Heap} {mg : Str → Option Value} {base : Heap} (X : K.In h) (G : h.Ns mainGlobals mg) (c : He.SaysD fa fn K) (b : myB K = true)
include X G c b
theorem tx0 (T : Option (Addr × Addr)) : Tx Γ0 { cg K with T := T } tb0 ar P w K mg base where
  arn := fun f => match f with
    | 0 => rfl
    | 1 => rfl
    | 2 => rfl
    | 3 => rfl
    | 4 => rfl
    | 5 => trivial
    | 6 => trivial
    | 7 => trivial
    | 8 => trivial
    | 9 => trivial
    | 10 => trivial
    | 11 => rfl
    | 12 => rfl
    | 13 => rfl
    | 14 => rfl
    | 15 => trivial
    | 16 => trivial
    | 17 => trivial
    | 18 => trivial
    | 19 => trivial
    | 20 => trivial
    | 21 => trivial
    | 22 => trivial
    | 23 => trivial
    | 24 => trivial
    | 25 => trivial
    | 26 => trivial
    | 27 => trivial
    | 28 => trivial
    | 29 => trivial
    | 30 => trivial
    | 31 => trivial
    | 32 => trivial
    | 33 => trivial
    | 34 => trivial
    | 35 => trivial
    | 36 => trivial
    | 37 => trivial
    | 38 => trivial
    | 39 => trivial
    | 40 => trivial
    | 41 => trivial
    | 42 => trivial
    | 43 => trivial
    | 44 => trivial
    | 45 => trivial
    | 46 => trivial
    | 47 => trivial
    | 48 => trivial
    | 49 => trivial
    | 50 => trivial
    | 51 => trivial
    | 52 => trivial
    | 53 => trivial
    | 54 => trivial
    | 55 => trivial
    | 56 => trivial
    | 57 => trivial
    | 58 => trivial
    | n + 59 => trivial
  fn := fun f x hx => by
    have hs : f ∈ small := by
      have hx : (if small.contains f then Γ.fn f else none) = some x := hx
      split at hx
      · rename_i q; simpa using q
      · cases hx
    simp only [small, List.mem_cons, List.mem_nil_iff, or_false] at hs
    rcases hs with rfl | rfl | rfl | rfl | rfl | rfl | rfl | rfl | rfl
    · cases hx; exact sr00 X G c T
    · cases hx; exact sr01 X G c T
    · cases hx; exact sr02 X G c T
    · cases hx; exact sr03 X G c T
    · cases hx; exact sr04 X G c T
    · cases hx; exact sr011 X G c T
    · cases hx; exact sr012 X G c T
    · cases hx; exact sr013 X G c T
    · cases hx; exact sr014 X G c T
  mt := fun f C m hx => by cases hx
  nw := fun f C hx => by cases hx
  cls := fun C x hx => match C, hx with
    | 0, hx => by cases hx
    | 1, hx => by cases hx
    | 2, hx => by cases hx
    | 3, hx => by cases hx
    | 4, hx => by cases hx
    | 5, hx => by cases hx
    | 6, hx => by cases hx
    | 7, hx => by
      cases hx
      exact ⟨He.glo_ok X G (c.fact 63 (f := .glo "Box") rfl), clsOk c b Γ0 rfl T⟩
    | n + 8, hx => by cases hx
  free := fun x hx => by
    have hx : x ∈ (["len", "isinstance", "list", "tuple", "all", "any", "max", "abs", "int", "str", "range", "enumerate", "zip", "dict", "bool"] : List Str) := List.elem_iff.mp hx
    simp only [List.mem_cons, List.mem_nil_iff, or_false] at hx
    rcases hx with rfl | rfl | rfl | rfl | rfl | rfl | rfl | rfl | rfl | rfl | rfl | rfl | rfl | rfl | rfl
    · exact He.free_ok X G (c.fact 47 (f := .free "len") rfl)
    · exact He.free_ok X G (c.fact 48 (f := .free "isinstance") rfl)
    · exact He.free_ok X G (c.fact 49 (f := .free "list") rfl)
    · exact He.free_ok X G (c.fact 50 (f := .free "tuple") rfl)
    · exact He.free_ok X G (c.fact 51 (f := .free "all") rfl)
    · exact He.free_ok X G (c.fact 52 (f := .free "any") rfl)
    · exact He.free_ok X G (c.fact 53 (f := .free "max") rfl)
    · exact He.free_ok X G (c.fact 54 (f := .free "abs") rfl)
    · exact He.free_ok X G (c.fact 55 (f := .free "int") rfl)
    · exact He.free_ok X G (c.fact 56 (f := .free "str") rfl)
    · exact He.free_ok X G (c.fact 57 (f := .free "range") rfl)
    · exact He.free_ok X G (c.fact 58 (f := .free "enumerate") rfl)
    · exact He.free_ok X G (c.fact 59 (f := .free "zip") rfl)
    · exact He.free_ok X G (c.fact 60 (f := .free "dict") rfl)
    · exact He.free_ok X G (c.fact 61 (f := .free "bool") rfl)
  gs := fun x z hx => by
    have hx : (x, z) ∈ ([("LETTERS", "abcdefghijklmnopqrstuvwxyz")] : List (Str × Str)) := List.elem_iff.mp hx
    simp only [List.mem_cons, List.mem_nil_iff, or_false] at hx
    cases hx
    exact He.str_ok X G (c.fact 62 (f := .str "LETTERS" "abcdefghijklmnopqrstuvwxyz") rfl)
theorem tx2 (T : Option (Addr × Addr)) : Tx Γ2 { cg K with T := T } tb2 ar P w K mg base where
  arn := fun f => match f with
    | 0 => trivial
    | 1 => trivial
    | 2 => trivial
    | 3 => trivial
    | 4 => trivial
    | 5 => trivial
    | 6 => trivial
    | 7 => trivial
    | 8 => trivial
    | 9 => trivial
    | 10 => trivial
    | 11 => trivial
    | 12 => trivial
    | 13 => trivial
    | 14 => trivial
    | 15 => trivial
    | 16 => trivial
    | 17 => trivial
    | 18 => trivial
    | 19 => trivial
    | 20 => trivial
    | 21 => trivial
    | 22 => trivial
    | 23 => trivial
    | 24 => trivial
    | 25 => trivial
    | 26 => trivial
    | 27 => trivial
    | 28 => trivial
    | 29 => trivial
    | 30 => trivial
    | 31 => trivial
    | 32 => trivial
    | 33 => trivial
    | 34 => trivial
    | 35 => trivial
    | 36 => trivial
    | 37 => trivial
    | 38 => trivial
    | 39 => trivial
    | 40 => trivial
    | 41 => trivial
    | 42 => trivial
    | 43 => trivial
    | 44 => trivial
    | 45 => trivial
    | 46 => trivial
    | 47 => trivial
    | 48 => trivial
    | 49 => trivial
    | 50 => trivial
    | 51 => trivial
    | 52 => trivial
    | 53 => trivial
    | 54 => trivial
    | 55 => rfl
    | 56 => trivial
    | 57 => trivial
    | 58 => trivial
    | n + 59 => trivial
  fn := fun f x hx => by
    have hs : f ∈ ([55] : List Nat) := by
      have hx : (if f = 55 then Γ.fn f else none) = some x := hx
      split at hx
      · rename_i q; simpa using q
      · cases hx
    simp only [List.mem_cons, List.mem_nil_iff, or_false] at hs
    rcases hs with rfl
    · cases hx; exact sr255 X G c T
  mt := fun f C m hx => by cases hx
  nw := fun f C hx => by cases hx
  cls := fun C x hx => match C, hx with
    | 0, hx => by cases hx
    | 1, hx => by cases hx
    | 2, hx => by cases hx
    | 3, hx => by cases hx
    | 4, hx => by cases hx
    | 5, hx => by cases hx
    | 6, hx => by cases hx
    | 7, hx => by
      cases hx
      exact ⟨He.glo_ok X G (c.fact 63 (f := .glo "Box") rfl), clsOk c b Γ2 rfl T⟩
    | n + 8, hx => by cases hx
  free := fun x hx => by
    have hx : x ∈ (["len", "isinstance", "list", "tuple", "all", "any", "max", "abs", "int", "str", "range", "enumerate", "zip", "dict", "bool"] : List Str) := List.elem_iff.mp hx
    simp only [List.mem_cons, List.mem_nil_iff, or_false] at hx
    rcases hx with rfl | rfl | rfl | rfl | rfl | rfl | rfl | rfl | rfl | rfl | rfl | rfl | rfl | rfl | rfl
    · exact He.free_ok X G (c.fact 47 (f := .free "len") rfl)
    · exact He.free_ok X G (c.fact 48 (f := .free "isinstance") rfl)
    · exact He.free_ok X G (c.fact 49 (f := .free "list") rfl)
    · exact He.free_ok X G (c.fact 50 (f := .free "tuple") rfl)
    · exact He.free_ok X G (c.fact 51 (f := .free "all") rfl)
    · exact He.free_ok X G (c.fact 52 (f := .free "any") rfl)
    · exact He.free_ok X G (c.fact 53 (f := .free "max") rfl)
    · exact He.free_ok X G (c.fact 54 (f := .free "abs") rfl)
    · exact He.free_ok X G (c.fact 55 (f := .free "int") rfl)
    · exact He.free_ok X G (c.fact 56 (f := .free "str") rfl)
    · exact He.free_ok X G (c.fact 57 (f := .free "range") rfl)
    · exact He.free_ok X G (c.fact 58 (f := .free "enumerate") rfl)
    · exact He.free_ok X G (c.fact 59 (f := .free "zip") rfl)
    · exact He.free_ok X G (c.fact 60 (f := .free "dict") rfl)
    · exact He.free_ok X G (c.fact 61 (f := .free "bool") rfl)
  gs := fun x z hx => by
    have hx : (x, z) ∈ ([("LETTERS", "abcdefghijklmnopqrstuvwxyz")] : List (Str × Str)) := List.elem_iff.mp hx
    simp only [List.mem_cons, List.mem_nil_iff, or_false] at hx
    cases hx
    exact He.str_ok X G (c.fact 62 (f := .str "LETTERS" "abcdefghijklmnopqrstuvwxyz") rfl)
theorem ini15 (T : Option (Addr × Addr)) : Ini Γ { cg K with T := T } tb ar P w K mg base 15 7 := by
  obtain ⟨fd, F⟩ := c.def_ 15 (d := d15) rfl
  exact ⟨22, boxS, _, fd, ["self", "states", "buttons", "rows"], rfl, He.mkr_ok (c.fact 65 (f := .mkr "Box") rfl), F.bindsN (fun _ _ _ _ _ _ us hl => match us, hl with | [_, _, _, _], _ => rfl), rfl,
    box_fn (N := N15) F ⟨rfl, rfl, rfl, by decide +kernel, rfl, by decide +kernel, by decide +kernel⟩ rfl rfl rfl (by decide +kernel) (by decide +kernel) (by decide +kernel) (by decide +kernel) (by decide +kernel) (by decide +kernel) rfl (by decide +kernel)
      (by decide +kernel) (by decide +kernel) (by decide +kernel) (by decide +kernel) (by decide +kernel) (by decide +kernel) (by decide +kernel) (by decide +kernel) (by decide +kernel) (by decide +kernel) (by decide +kernel) (clsOk c b Γ0 rfl T) (gx (tx0 X G c b T) 20)⟩
theorem tx (T : Option (Addr × Addr)) : Tx Γ { cg K with T := T } tb ar P w K mg base where
  arn := fun f => match f with
    | 0 => rfl
    | 1 => rfl
    | 2 => rfl
    | 3 => rfl
    | 4 => rfl
    | 5 => trivial
    | 6 => trivial
    | 7 => trivial
    | 8 => trivial
    | 9 => trivial
    | 10 => trivial
    | 11 => rfl
    | 12 => rfl
    | 13 => rfl
    | 14 => rfl
    | 15 => rfl
    | 16 => rfl
    | 17 => rfl
    | 18 => rfl
    | 19 => rfl
    | 20 => rfl
    | 21 => rfl
    | 22 => rfl
    | 23 => rfl
    | 24 => rfl
    | 25 => rfl
    | 26 => rfl
    | 27 => rfl
    | 28 => rfl
    | 29 => rfl
    | 30 => rfl
    | 31 => rfl
    | 32 => rfl
    | 33 => rfl
    | 34 => rfl
    | 35 => rfl
    | 36 => rfl
    | 37 => rfl
    | 38 => rfl
    | 39 => rfl
    | 40 => rfl
    | 41 => trivial
    | 42 => rfl
    | 43 => rfl
    | 44 => rfl
    | 45 => rfl
    | 46 => rfl
    | 47 => rfl
    | 48 => rfl
    | 49 => rfl
    | 50 => rfl
    | 51 => rfl
    | 52 => rfl
    | 53 => rfl
    | 54 => rfl
    | 55 => rfl
    | 56 => rfl
    | 57 => rfl
    | 58 => trivial
    | n + 59 => trivial
  fn := fun f x hx => match f, hx with
    | 0, hx => by cases hx; exact src0 X G c T
    | 1, hx => by cases hx; exact src1 X G c T
    | 2, hx => by cases hx; exact src2 X G c T
    | 3, hx => by cases hx; exact src3 X G c T
    | 4, hx => by cases hx; exact src4 X G c T
    | 5, hx => by cases hx
    | 6, hx => by cases hx
    | 7, hx => by cases hx
    | 8, hx => by cases hx
    | 9, hx => by cases hx
    | 10, hx => by cases hx
    | 11, hx => by cases hx; exact src11 X G c T
    | 12, hx => by cases hx; exact src12 X G c T
    | 13, hx => by cases hx; exact src13 X G c T
    | 14, hx => by cases hx; exact src14 X G c T
    | 15, hx => by cases hx
    | 16, hx => by cases hx
    | 17, hx => by cases hx
    | 18, hx => by cases hx
    | 19, hx => by cases hx
    | 20, hx => by cases hx
    | 21, hx => by cases hx; exact src21 X G c T
    | 22, hx => by cases hx; exact src22 X G c T
    | 23, hx => by cases hx; exact src23 X G c T
    | 24, hx => by cases hx; exact src24 X G c T
    | 25, hx => by cases hx; exact src25 X G c T
    | 26, hx => by cases hx; exact src26 X G c T
    | 27, hx => by cases hx; exact src27 X G c T
    | 28, hx => by cases hx; exact src28 X G c T
    | 29, hx => by cases hx; exact src29 X G c T
    | 30, hx => by cases hx; exact src30 X G c T
    | 31, hx => by cases hx; exact src31 X G c T
    | 32, hx => by cases hx; exact src32 X G c T
    | 33, hx => by cases hx; exact src33 X G c T
    | 34, hx => by cases hx; exact src34 X G c T
    | 35, hx => by cases hx; exact src35 X G c T
    | 36, hx => by cases hx; exact src36 X G c T
    | 37, hx => by cases hx; exact src37 X G c T
    | 38, hx => by cases hx; exact src38 X G c T
    | 39, hx => by cases hx; exact src39 X G c T
    | 40, hx => by cases hx; exact src40 X G c T
    | 41, hx => by
      cases hx
      obtain ⟨fd, F⟩ := c.def_ 41 (d := d41) rfl
      exact ⟨_, fd, ["script"], He.glo_ok X G (c.fact 29 (f := .glo "_law_start") rfl), F.kp, F.bindsN (fun _ _ _ _ _ _ us hl => match us, hl with | [_], _ => rfl), rfl, .none rfl⟩
    | 42, hx => by
      cases hx
      obtain ⟨fd, F⟩ := c.def_ 42 (d := d42) rfl
      exact ⟨_, fd, ["state", "many"], He.glo_ok X G (c.fact 30 (f := .glo "_law_pick") rfl), F.kp, F.bindsN (fun _ _ _ _ _ _ us hl => match us, hl with | [_, _], _ => rfl), rfl,
        .prim (l := 1) (sem := pickF) rfl (pick_fn F ⟨rfl, rfl, rfl, by decide +kernel, rfl, by decide +kernel, by decide +kernel⟩ rfl (by decide +kernel) (by decide +kernel) (by decide +kernel) (He.free_ok X G (c.fact 54 (f := .free "abs") rfl)) (He.free_ok X G (c.fact 55 (f := .free "int") rfl)) rfl rfl)⟩
    | 43, hx => by cases hx; exact src43 X G c T
    | 44, hx => by cases hx; exact src44 X G c T
    | 45, hx => by cases hx; exact src45 X G c T
    | 46, hx => by cases hx; exact src46 X G c T
    | 47, hx => by cases hx; exact src47 X G c T
    | 48, hx => by cases hx; exact src48 X G c T
    | 49, hx => by cases hx; exact src49 X G c T
    | 50, hx => by cases hx; exact src50 X G c T
    | 51, hx => by cases hx; exact src51 X G c T
    | 52, hx => by cases hx; exact src52 X G c T
    | 53, hx => by cases hx; exact src53 X G c T
    | 54, hx => by cases hx; exact src54 X G c T
    | 55, hx => by cases hx; exact src55 X G c T
    | 56, hx => by cases hx; exact src56 X G c T
    | 57, hx => by
      cases hx
      obtain ⟨fd, F⟩ := c.def_ 57 (d := d57) rfl
      exact ⟨_, fd, a57, He.glo_ok X G (c.fact 45 (f := .glo "_law_two_lists") rfl), F.kp, F.bindsN (fun _ _ _ _ _ _ us hl => match us, hl with | [_, _], _ => rfl), rfl,
        .prim (l := 9) (sem := tlS) rfl (((tl_fn (f := 57) (Γ := Γ2) (tb := tb2) (k := 5) (N := N57) (fp := 55) (ps := a57) F (show FnScope N57 a57 (defScope s57) from ⟨rfl, rfl, rfl, by decide +kernel, rfl, by decide +kernel, by decide +kernel⟩) rfl rfl rfl (by decide +kernel) (by decide +kernel) (by decide +kernel) (by decide +kernel) (by decide +kernel) (by decide +kernel) (by decide +kernel) (by decide +kernel)
          (by decide +kernel) (by decide +kernel) (by decide +kernel) (by decide +kernel) (by decide +kernel) (by decide +kernel) (by decide +kernel) (by decide +kernel) rfl (gx (tx2 X G c b T) 5)).mono (show 5 + 1 + 1 ≤ 9 by decide)).imp fun vs H Q E h => h)⟩
    | 58, hx => by
      cases hx
      obtain ⟨fd, F⟩ := c.def_ 58 (d := d58) rfl
      exact ⟨_, fd, ["script"], He.glo_ok X G (c.fact 46 (f := .glo "law") rfl), F.kp, F.bindsN (fun _ _ _ _ _ _ us hl => match us, hl with | [_], _ => rfl), rfl, .none rfl⟩
    | n + 59, hx => by cases hx
  mt := fun f C m hx => match f, hx with
    | 0, hx => by cases hx
    | 1, hx => by cases hx
    | 2, hx => by cases hx
    | 3, hx => by cases hx
    | 4, hx => by cases hx
    | 5, hx => by cases hx
    | 6, hx => by cases hx
    | 7, hx => by cases hx
    | 8, hx => by cases hx
    | 9, hx => by cases hx
    | 10, hx => by cases hx
    | 11, hx => by cases hx
    | 12, hx => by cases hx
    | 13, hx => by cases hx
    | 14, hx => by cases hx
    | 15, hx => by cases hx
    | 16, hx => by cases hx; exact src16 X G c T
    | 17, hx => by cases hx; exact src17 X G c T
    | 18, hx => by cases hx; exact src18 X G c T
    | 19, hx => by cases hx; exact src19 X G c T
    | 20, hx => by cases hx; exact src20 X G c T
    | 21, hx => by cases hx
    | 22, hx => by cases hx
    | 23, hx => by cases hx
    | 24, hx => by cases hx
    | 25, hx => by cases hx
    | 26, hx => by cases hx
    | 27, hx => by cases hx
    | 28, hx => by cases hx
    | 29, hx => by cases hx
    | 30, hx => by cases hx
    | 31, hx => by cases hx
    | 32, hx => by cases hx
    | 33, hx => by cases hx
    | 34, hx => by cases hx
    | 35, hx => by cases hx
    | 36, hx => by cases hx
    | 37, hx => by cases hx
    | 38, hx => by cases hx
    | 39, hx => by cases hx
    | 40, hx => by cases hx
    | 41, hx => by cases hx
    | 42, hx => by cases hx
    | 43, hx => by cases hx
    | 44, hx => by cases hx
    | 45, hx => by cases hx
    | 46, hx => by cases hx
    | 47, hx => by cases hx
    | 48, hx => by cases hx
    | 49, hx => by cases hx
    | 50, hx => by cases hx
    | 51, hx => by cases hx
    | 52, hx => by cases hx
    | 53, hx => by cases hx
    | 54, hx => by cases hx
    | 55, hx => by cases hx
    | 56, hx => by cases hx
    | 57, hx => by cases hx
    | 58, hx => by cases hx
    | n + 59, hx => by cases hx
  nw := fun f C hx => match f, hx with
    | 0, hx => by cases hx
    | 1, hx => by cases hx
    | 2, hx => by cases hx
    | 3, hx => by cases hx
    | 4, hx => by cases hx
    | 5, hx => by cases hx
    | 6, hx => by cases hx
    | 7, hx => by cases hx
    | 8, hx => by cases hx
    | 9, hx => by cases hx
    | 10, hx => by cases hx
    | 11, hx => by cases hx
    | 12, hx => by cases hx
    | 13, hx => by cases hx
    | 14, hx => by cases hx
    | 15, hx => by cases hx; exact ini15 X G c b T
    | 16, hx => by cases hx
    | 17, hx => by cases hx
    | 18, hx => by cases hx
    | 19, hx => by cases hx
    | 20, hx => by cases hx
    | 21, hx => by cases hx
    | 22, hx => by cases hx
    | 23, hx => by cases hx
    | 24, hx => by cases hx
    | 25, hx => by cases hx
    | 26, hx => by cases hx
    | 27, hx => by cases hx
    | 28, hx => by cases hx
    | 29, hx => by cases hx
    | 30, hx => by cases hx
    | 31, hx => by cases hx
    | 32, hx => by cases hx
    | 33, hx => by cases hx
    | 34, hx => by cases hx
    | 35, hx => by cases hx
    | 36, hx => by cases hx
    | 37, hx => by cases hx
    | 38, hx => by cases hx
    | 39, hx => by cases hx
    | 40, hx => by cases hx
    | 41, hx => by cases hx
    | 42, hx => by cases hx
    | 43, hx => by cases hx
    | 44, hx => by cases hx
    | 45, hx => by cases hx
    | 46, hx => by cases hx
    | 47, hx => by cases hx
    | 48, hx => by cases hx
    | 49, hx => by cases hx
    | 50, hx => by cases hx
    | 51, hx => by cases hx
    | 52, hx => by cases hx
    | 53, hx => by cases hx
    | 54, hx => by cases hx
    | 55, hx => by cases hx
    | 56, hx => by cases hx
    | 57, hx => by cases hx
    | 58, hx => by cases hx
    | n + 59, hx => by cases hx
  cls := fun C x hx => match C, hx with
    | 0, hx => by cases hx
    | 1, hx => by cases hx
    | 2, hx => by cases hx
    | 3, hx => by cases hx
    | 4, hx => by cases hx
    | 5, hx => by cases hx
    | 6, hx => by cases hx
    | 7, hx => by
      cases hx
      exact ⟨He.glo_ok X G (c.fact 63 (f := .glo "Box") rfl), clsOk c b Γ rfl T⟩
    | n + 8, hx => by cases hx
  free := fun x hx => by
    have hx : x ∈ (["len", "isinstance", "list", "tuple", "all", "any", "max", "abs", "int", "str", "range", "enumerate", "zip", "dict", "bool"] : List Str) := List.elem_iff.mp hx
    simp only [List.mem_cons, List.mem_nil_iff, or_false] at hx
    rcases hx with rfl | rfl | rfl | rfl | rfl | rfl | rfl | rfl | rfl | rfl | rfl | rfl | rfl | rfl | rfl
    · exact He.free_ok X G (c.fact 47 (f := .free "len") rfl)
    · exact He.free_ok X G (c.fact 48 (f := .free "isinstance") rfl)
    · exact He.free_ok X G (c.fact 49 (f := .free "list") rfl)
    · exact He.free_ok X G (c.fact 50 (f := .free "tuple") rfl)
    · exact He.free_ok X G (c.fact 51 (f := .free "all") rfl)
    · exact He.free_ok X G (c.fact 52 (f := .free "any") rfl)
    · exact He.free_ok X G (c.fact 53 (f := .free "max") rfl)
    · exact He.free_ok X G (c.fact 54 (f := .free "abs") rfl)
    · exact He.free_ok X G (c.fact 55 (f := .free "int") rfl)
    · exact He.free_ok X G (c.fact 56 (f := .free "str") rfl)
    · exact He.free_ok X G (c.fact 57 (f := .free "range") rfl)
    · exact He.free_ok X G (c.fact 58 (f := .free "enumerate") rfl)
    · exact He.free_ok X G (c.fact 59 (f := .free "zip") rfl)
    · exact He.free_ok X G (c.fact 60 (f := .free "dict") rfl)
    · exact He.free_ok X G (c.fact 61 (f := .free "bool") rfl)
  gs := fun x z hx => by
    have hx : (x, z) ∈ ([("LETTERS", "abcdefghijklmnopqrstuvwxyz")] : List (Str × Str)) := List.elem_iff.mp hx
    simp only [List.mem_cons, List.mem_nil_iff, or_false] at hx
    cases hx
    exact He.str_ok X G (c.fact 62 (f := .str "LETTERS" "abcdefghijklmnopqrstuvwxyz") rfl)
end
end K94
end
section
set_option Elab.async false
set_option linter.all false
set_option maxRecDepth 100000
set_option maxHeartbeats 0
namespace K94
open L2 IR PySem PySem.Spec PyProof.Rows
/-- what is left to show, in plain Lean -/
def Plain : Prop := ∀ ns : List Int, ns.length ≤ 63 → ∃ s', exec Γ (callM Γ tb 40) false fuelW fLaw (.no :: .sh .st :: List.replicate (N58.length - 2) .no) ⟨ns, 0, 0, 29⟩ = .ok (.rt (.bl true)) s'
theorem facts (hp : Plain) {P : Program} {w : World} {K : PySem.W.Frag} {h : Heap} {mg : Str → Option Value} {f : Addr} (X : K.In h) (G : h.Ns mainGlobals mg) (hfa : mg ("law" : Str) = some (.ref f)) (c : He.SaysD fa fn K) (b : myB K = true) :
    ∃ fd : FuncData, (∀ (s : Shared) (v : Value), BindsTo s fd ⟨[v], []⟩ [("script", v)]) ∧ ∀ base : Heap, FnOk P w K mg base L2.CX0 (40 + 1 + 1) f fd ["script"] (fun vs H Q _ => IR.spLaw K 63 vs H Q (fun _ _ _ => False)) := by
  obtain ⟨fd, F⟩ := c.def_ 58 (d := d58) rfl
  obtain ⟨fdS, FS⟩ := c.def_ 41 (d := d41) rfl
  have e := hfa.symm.trans (He.glo_ok X G (c.fact 46 (f := .glo "law") rfl))
  cases e
  have bb := FunD.bindsA (ps := ["script"]) F fun _ _ _ _ _ _ us hl => match us, hl with | [_], _ => rfl
  refine ⟨fd, fun s v => bb s [v] rfl, fun base => fnok_calm ?_⟩
  exact law_fn (c := cg K) (N := N58) F ⟨rfl, rfl, rfl, by decide +kernel, rfl, by decide +kernel, by decide +kernel⟩ rfl kLaw (by decide +kernel) (by decide +kernel) (by decide +kernel)
    (He.glo_ok X G (c.fact 29 (f := .glo "_law_start") rfl)) FS.kp (FS.bindsN (fun _ _ _ _ _ _ us hl => match us, hl with | [_], _ => rfl))
    (start_fn FS ⟨rfl, rfl, rfl, by decide +kernel, rfl, by decide +kernel, by decide +kernel⟩ rfl (by decide +kernel) (by decide +kernel) (He.free_ok X G (c.fact 49 (f := .free "list") rfl)))
    (fun T => gx (tx X G c b (some T)) 40) hp
end K94
open PySem PySem.Calls PySem.W PyProof.Rows
theorem K94.holds (hp : K94.Plain) : PySem.Challenge.rw_pressrecord_k94_whole_buttons_read_from.Holds := by
  w_on; o_law
  refine HandSHeadRun.head_any (r := OpenLaw.row PySem.Challenge.rw_pressrecord_k94_whole_buttons_read_from) (q := view (OpenLaw.row PySem.Challenge.rw_pressrecord_k94_whole_buttons_read_from).prog [64]) (H := K94.hk) (ob := K94.ob) (M := 20000) (loose := K94.names)
    (d := HandSHeadRun.topDef (OpenLaw.row PySem.Challenge.rw_pressrecord_k94_whole_buttons_read_from).prog 64) (kwd := []) K94.ob_eq
    (by kernel_rfl) (fun s => by kernel_rfl) K94.run (by kernel_rfl) (by kernel_rfl) (by kernel_rfl) (by rfl) (by first | assumption | decide +kernel) (by decide +kernel) ⟨rfl, rfl, rfl, rfl, rfl, by decide +kernel⟩ ?hw ?hc
  case hw => w_witness2
  case hc =>
    refine L2.walk_ofE (l := PySem.Challenge.rw_pressrecord_k94_whole_buttons_read_from) (n := 63) (k := 40 + 1 + 1) (x := "script") (CX := L2.CX0) rfl (by decide) (by kernel_rfl) ⟨rfl, by decide, by decide⟩ ?F (fun _ _ _ _ z => z)
    intro w mg fa h Y G hmgz
    obtain ⟨K, KX, c, b⟩ := Y
    have hmgl : mg ("law" : PySem.Str) = some (.ref fa) := by
      have e : (HandSHeadRun.topDef (OpenLaw.row PySem.Challenge.rw_pressrecord_k94_whole_buttons_read_from).prog 64).name = ("law" : PySem.Str) := by kernel_rfl
      rw [← e]
      exact hmgz
    obtain ⟨fd, hb, hF⟩ := K94.facts hp (P := (PySem.Challenge.rw_pressrecord_k94_whole_buttons_read_from).prog) (w := w) KX G hmgl c b
    exact ⟨K, fd, _, KX, hb, fun H a ns hl _ hS => ⟨a, ns, rfl, hl, hS, fun _ => rfl⟩, fun base _ _ => hF base⟩
end
section
set_option Elab.async false
set_option linter.all false
set_option maxRecDepth 100000
set_option maxHeartbeats 4100000
namespace IR
open L2 PySem

/-! ## running the small language in plain Lean -/
def Sat {α : Type} (x : Out α) (Q : α → DS → Prop) : Prop := match x with
  | .ok a s => Q a s
  | _ => False
@[simp] theorem sat_ok {α : Type} (a : α) (s : DS) (Q : α → DS → Prop) : Sat (.ok a s) Q = Q a s := rfl
theorem sat_ex {α : Type} {x : Out α} {Q : α → DS → Prop} (h : Sat x Q) : ∃ a s, x = .ok a s ∧ Q a s := by
  cases x with
  | ok a s => exact ⟨a, s, rfl, h⟩
  | er c d s => exact h.elim
  | no => exact h.elim
theorem sat_of {α : Type} {x : Out α} {Q : α → DS → Prop} {a : α} {s : DS} (e : x = .ok a s) (h : Q a s) : Sat x Q := by
  rw [e]; exact h
theorem sat_bind {α β : Type} {x : Out α} {f : α → DS → Out β} {P : α → DS → Prop} {Q : β → DS → Prop} (h : Sat x P) (k : ∀ a s, P a s → Sat (f a s) Q) : Sat (x.bind f) Q := by
  obtain ⟨a, s, rfl, p⟩ := sat_ex h
  exact k a s p
theorem sat_mono {α : Type} {x : Out α} {P Q : α → DS → Prop} (h : Sat x P) (k : ∀ a s, P a s → Q a s) : Sat x Q := by
  obtain ⟨a, s, rfl, p⟩ := sat_ex h
  exact k a s p

/-! ### calls -/
section
variable {Γ : Gm} {tb : Nat → Fn} {k f : Nat} {as : List D} {s : DS}
theorem callM_ir {a n : Nat} {b : S} {fr : Bool} (h : tb f = .ir a n b fr) (hk : 0 < k) : callM Γ tb k f as s = runF Γ (callM Γ tb (k - 1)) a n b fr as s := by
  obtain ⟨j, rfl⟩ : ∃ j, k = j + 1 := ⟨k - 1, by omega⟩
  rw [callM, h]
  rfl
theorem callM_prim {a l : Nat} {sem : List D → DS → Out D} (h : tb f = .prim a l sem) (hl : l ≤ k) (h0 : 0 < k) (ha : as.length = a) : callM Γ tb k f as s = sem as s := by
  obtain ⟨j, rfl⟩ : ∃ j, k = j + 1 := ⟨k - 1, by omega⟩
  rw [callM, h]
  simp [ha, hl]
end
/-- what a body's end gives -/
def endO : Fl → DS → Out D
  | .rt d, s => .ok d s
  | .nx _, s => .ok .non s
  | _, _ => .no
@[simp] theorem endO_rt (d : D) (s : DS) : endO (.rt d) s = .ok d s := rfl
@[simp] theorem endO_nx (ρ : Env) (s : DS) : endO (.nx ρ) s = .ok .non s := rfl
theorem runF_eq {Γ : Gm} {cf : Nat → List D → DS → Out D} {a n : Nat} {b : S} {fr : Bool} {as : List D} {s : DS} (h : as.length = a) :
    runF Γ cf a n b fr as s = (exec Γ cf fr fuelW b (as.map Slot.sh ++ List.replicate (n - a) Slot.no) s).bind endO := by
  unfold runF
  rw [if_pos h]
  generalize exec Γ cf fr fuelW b (as.map Slot.sh ++ List.replicate (n - a) Slot.no) s = x
  cases x with
  | ok fl s => cases fl <;> rfl
  | er c d s => rfl
  | no => rfl

/-! ### loops -/
/-- what holds behind a turn -/
def aft (I : Env → DS → Prop) (Post : Fl → DS → Prop) : Fl → DS → Prop
  | .nx ρ, s => I ρ s
  | .ct ρ, s => I ρ s
  | .bk ρ, s => Post (.nx ρ) s
  | .rt d, s => Post (.rt d) s
@[simp] theorem aft_nx (I : Env → DS → Prop) (Post : Fl → DS → Prop) (ρ : Env) (s : DS) : aft I Post (.nx ρ) s = I ρ s := rfl
@[simp] theorem aft_ct (I : Env → DS → Prop) (Post : Fl → DS → Prop) (ρ : Env) (s : DS) : aft I Post (.ct ρ) s = I ρ s := rfl
@[simp] theorem aft_bk (I : Env → DS → Prop) (Post : Fl → DS → Prop) (ρ : Env) (s : DS) : aft I Post (.bk ρ) s = Post (.nx ρ) s := rfl
@[simp] theorem aft_rt (I : Env → DS → Prop) (Post : Fl → DS → Prop) (d : D) (s : DS) : aft I Post (.rt d) s = Post (.rt d) s := rfl
theorem forM_sat {α : Type} {body : Env → DS → Out Fl} {p : Pt} {enc : α → D} {xs : List α} {ρ : Env} {s : DS} {Post : Fl → DS → Prop} (I : List α → Env → DS → Prop) (h0 : I [] ρ s)
    (hs : ∀ pre x post ρ s, xs = pre ++ x :: post → I pre ρ s → ∃ ρ1, asgP p (enc x) ρ = some ρ1 ∧ Sat (body ρ1 s) (aft (I (pre ++ [x])) Post))
    (he : ∀ ρ s, I xs ρ s → Post (.nx ρ) s) : Sat (forM body p (xs.map enc) ρ s) Post := by
  have key : ∀ (post pre : List α) (ρ : Env) (s : DS), xs = pre ++ post → I pre ρ s → Sat (forM body p (post.map enc) ρ s) Post := by
    intro post
    induction post with
    | nil =>
      intro pre ρ s e h
      rw [List.append_nil] at e
      subst e
      exact he ρ s h
    | cons x post ih =>
      intro pre ρ s e h
      obtain ⟨ρ1, e1, h1⟩ := hs pre x post ρ s e h
      rw [List.map_cons, forM, e1]
      refine sat_bind h1 fun fl s' h2 => ?_
      cases fl with
      | nx ρ2 => exact ih (pre ++ [x]) ρ2 s' (by rw [e]; simp) h2
      | ct ρ2 => exact ih (pre ++ [x]) ρ2 s' (by rw [e]; simp) h2
      | bk ρ2 => exact h2
      | rt d => exact h2
  exact key xs [] ρ s rfl h0
theorem whM_sat {cnd : Env → DS → Out D} {body : Env → DS → Out Fl} {n : Nat} {ρ : Env} {s : DS} {Post : Fl → DS → Prop} (I : Nat → Env → DS → Prop) (m : Nat) (hm : m < n) (h0 : I m ρ s)
    (hs : ∀ m ρ s, I m ρ s → ∃ t, cnd ρ s = .ok (.bl t) s ∧ (t = true → Sat (body ρ s) (aft (fun ρ s => ∃ m', m' < m ∧ I m' ρ s) Post)) ∧ (t = false → Post (.nx ρ) s)) : Sat (whM cnd body n ρ s) Post := by
  induction n generalizing m ρ s with
  | zero => omega
  | succ n ih =>
    obtain ⟨t, e, h1, h2⟩ := hs m ρ s h0
    rw [whM, e, bind_ok, onB_bl]
    cases t with
    | false => exact h2 rfl
    | true =>
      refine sat_bind (h1 rfl) fun fl s' h3 => ?_
      cases fl with
      | nx ρ2 =>
        obtain ⟨m', hm', h4⟩ := h3
        exact ih m' (by omega) h4
      | ct ρ2 =>
        obtain ⟨m', hm', h4⟩ := h3
        exact ih m' (by omega) h4
      | bk ρ2 => exact h3
      | rt d => exact h3
theorem lcM_pure {α : Type} {p : Pt} {ρ : Env} {cnd elt : Env → DS → Out D} {enc : α → D} {xs : List α} {s : DS} (c : α → Bool) (g : α → D) (ρ' : α → Env)
    (h : ∀ x ∈ xs, asgP p (enc x) ρ = some (ρ' x) ∧ cnd (ρ' x) s = .ok (.bl (c x)) s ∧ (c x = true → elt (ρ' x) s = .ok (g x) s)) : lcM p ρ cnd elt (xs.map enc) s = .ok ((xs.filter c).map g) s := by
  induction xs with
  | nil => rfl
  | cons x xs ih =>
    obtain ⟨e1, e2, e3⟩ := h x (List.mem_cons_self ..)
    have ih := ih fun y hy => h y (List.mem_cons_of_mem _ hy)
    rw [List.map_cons, lcM, e1]
    dsimp only
    rw [e2]
    cases hc : c x with
    | true => simp only [e3 hc, ih, List.filter_cons_of_pos hc, List.map_cons]
    | false =>
      have hc' : ¬ c x = true := by simp [hc]
      simp only [ih, List.filter_cons_of_neg hc']
/-- a comprehension that draws -/
theorem lcM_sat {α : Type} {p : Pt} {ρ : Env} {cnd elt : Env → DS → Out D} {enc : α → D} {xs : List α} {s : DS} {β : Type} (denc : β → D) (J : Nat → DS → Prop) (R : α → β → Prop)
    (h0 : J xs.length s) (h : ∀ x ∈ xs, ∀ n s, J (n + 1) s → ∃ ρ1, asgP p (enc x) ρ = some ρ1 ∧ cnd ρ1 s = .ok (.bl true) s ∧ Sat (elt ρ1 s) (fun d s' => J n s' ∧ ∃ y, d = denc y ∧ R x y)) :
    Sat (lcM p ρ cnd elt (xs.map enc) s) (fun ds s' => J 0 s' ∧ ∃ ys : List β, ds = ys.map denc ∧ ys.length = xs.length ∧ ∀ (i : Nat) x y, xs[i]? = some x → ys[i]? = some y → R x y) := by
  induction xs generalizing s with
  | nil => exact ⟨h0, [], rfl, rfl, fun i x y e => by simp at e⟩
  | cons x xs ih =>
    obtain ⟨ρ1, e1, e2, e3⟩ := h x (List.mem_cons_self ..) xs.length s (by simpa using h0)
    obtain ⟨d, s1, e3, hj, y, rfl, hr⟩ := sat_ex e3
    obtain ⟨ds, s2, e4, hj2, ys, rfl, hl, hr2⟩ := sat_ex (ih (s := s1) hj fun z hz => h z (List.mem_cons_of_mem _ hz))
    rw [List.map_cons, lcM, e1]
    dsimp only
    rw [e2]
    dsimp only
    rw [e3]
    dsimp only
    rw [e4]
    refine ⟨hj2, y :: ys, rfl, by simp [hl], fun i x' y' hx hy => ?_⟩
    cases i with
    | zero =>
      simp at hx hy
      subst hx hy
      exact hr
    | succ i =>
      simp at hx hy
      exact hr2 i x' y' hx hy

/-! ### draws -/
def GB (b : Nat) (s : DS) : Prop := 0 ≤ s.cur ∧ 0 ≤ s.n ∧ s.n + b ≤ 2 ^ 40 ∧ 0 ≤ s.mix ∧ s.mix < 2147483647
theorem GB.mono {b b' : Nat} {s : DS} (h : GB b s) (l : b' ≤ b) : GB b' s := ⟨h.1, h.2.1, by have := h.2.2.1; omega, h.2.2.2⟩
theorem pickL_ok : ∀ (xs : List Int) (cur mix : Int), 0 ≤ cur → 0 ≤ mix → mix < 2147483647 → 0 ≤ (pickL xs cur mix).2.1 ∧ 0 ≤ (pickL xs cur mix).2.2 ∧ (pickL xs cur mix).2.2 < 2147483647
  | [], cur, mix, h1, h2, h3 => ⟨h1, h2, h3⟩
  | x :: r, cur, mix, h1, h2, h3 => by
    rw [pickL]
    by_cases e : cur = 0
    · rw [if_pos e]
      refine pickL_ok r _ _ ?_ (Int.emod_nonneg _ (by decide)) (Int.emod_lt_of_pos _ (by decide))
      split
      · split <;> omega
      · omega
    · rw [if_neg e]
      exact ⟨h1, h2, h3⟩
theorem pick_ok {b : Nat} {m : Int} {s : DS} (h : GB (b + 1) s) (h0 : 0 < m) (h1 : m < 1073741824) : ∃ i s', pickS m s = .ok (.int i) s' ∧ 0 ≤ i ∧ i < m ∧ GB b s' := by
  obtain ⟨g1, g2, g3, g4, g5⟩ := h
  unfold pickS
  rw [if_pos ⟨h0, h1, g1, g2, by omega, g4, g5⟩]
  obtain ⟨k1, k2, k3⟩ := pickL_ok s.cells s.cur s.mix g1 g4 g5
  generalize pickL s.cells s.cur s.mix = q at k1 k2 k3
  obtain ⟨cells, cur, mix⟩ := q
  dsimp only at k1 k2 k3 ⊢
  by_cases e : 0 < cur
  · rw [if_pos e]
    exact ⟨_, _, rfl, Int.emod_nonneg _ (by omega), Int.emod_lt_of_pos _ h0, Int.ediv_nonneg k1 (by omega), by dsimp only; omega, by dsimp only; omega, k2, k3⟩
  · rw [if_neg e]
    exact ⟨_, _, rfl, Int.emod_nonneg _ (by omega), Int.emod_lt_of_pos _ h0, k1, by dsimp only; omega, by dsimp only; omega, k2, k3⟩

/-! ### data -/
def sD (xs : List Str) : List D := xs.map D.str
@[simp] theorem toPys_str (xs : List Str) : toPys (xs.map D.str) = some (xs.map PyData.str) := by
  induction xs with
  | nil => rfl
  | cons x xs ih => simp [toPys, toPy, ih]
theorem eqvAll_str (xs ys : List Str) : PyData.eqvAll (xs.map PyData.str) (ys.map PyData.str) = decide (xs = ys) := by
  induction xs generalizing ys with
  | nil => cases ys <;> simp [PyData.eqvAll]
  | cons x xs ih =>
    cases ys with
    | nil => simp [PyData.eqvAll]
    | cons y ys =>
      rw [List.map_cons, List.map_cons, PyData.eqvAll, ih, PyData.eqv]
      by_cases e : x = y
      · subst e; simp
      · simp [e]
/-- a text of code points -/
def okS (x : Str) : Prop := PyData.strOk x = true
theorem canLayAll_str {xs : List Str} (h : ∀ x ∈ xs, okS x) : PyData.canLayAll0 (xs.map PyData.str) = true := by
  induction xs with
  | nil => rfl
  | cons x xs ih =>
    rw [List.map_cons, PyData.canLayAll0, PyData.canLay0, ih fun y hy => h y (List.mem_cons_of_mem _ hy), Bool.and_true]
    exact h x (List.mem_cons_self ..)
theorem depthAll_str (xs : List Str) : PyData.depthAll (xs.map PyData.str) = 0 := by
  induction xs with
  | nil => rfl
  | cons x xs ih => rw [List.map_cons, PyData.depthAll, PyData.depth, ih]; rfl
theorem shaped_str {x : Str} (h : okS x) : SeqAt.shaped (.str x) = true := by
  unfold SeqAt.shaped
  rw [PyData.canLay0, PyData.depth]
  have h' : PyData.strOk x = true := h
  rw [h']
  decide
theorem shaped_strs {xs : List Str} (h : ∀ x ∈ xs, okS x) : SeqAt.shaped (.list (xs.map .str)) = true := by
  unfold SeqAt.shaped
  rw [PyData.canLay0, PyData.depth, depthAll_str, canLayAll_str h]
  decide
theorem shaped_tstrs {xs : List Str} (h : ∀ x ∈ xs, okS x) : SeqAt.shaped (.tuple (xs.map .str)) = true := by
  unfold SeqAt.shaped
  rw [PyData.canLay0, PyData.depth, depthAll_str, canLayAll_str h]
  decide
theorem eqD_str {x y : Str} (hx : okS x) (hy : okS y) : eqD (.str x) (.str y) = some (decide (x = y)) := by
  unfold eqD
  simp only [toPy, shaped_str hx, shaped_str hy, Bool.and_self, if_true, PyData.eqv]
  by_cases e : x = y
  · subst e; simp
  · simp [e]
theorem eqD_int (i j : Int) : eqD (.int i) (.int j) = some (decide (i = j)) := by
  unfold eqD
  have h1 : ∀ i, SeqAt.shaped (.int i) = true := fun i => by unfold SeqAt.shaped; rw [PyData.canLay0, PyData.depth]; decide
  simp only [toPy, h1, Bool.and_self, if_true, PyData.eqv]
  by_cases e : i = j
  · subst e; simp
  · simp [e]
theorem eqD_bl (i j : Bool) : eqD (.bl i) (.bl j) = some (i == j) := by
  unfold eqD
  have h1 : ∀ i, SeqAt.shaped (.bool i) = true := fun i => by unfold SeqAt.shaped; rw [PyData.canLay0, PyData.depth]; decide
  simp only [toPy, h1, Bool.and_self, if_true, PyData.eqv]
theorem eqD_strs {xs ys : List Str} (hx : ∀ x ∈ xs, okS x) (hy : ∀ x ∈ ys, okS x) : eqD (.lst (xs.map .str)) (.lst (ys.map .str)) = some (decide (xs = ys)) := by
  unfold eqD
  simp only [toPy, toPys_str, Option.map_some, shaped_strs hx, shaped_strs hy, Bool.and_self, if_true, PyData.eqv, eqvAll_str]
theorem inD_strs {x : Str} {xs : List Str} (h : okS x) (hx : ∀ x ∈ xs, okS x) : inD (.str x) (.lst (xs.map .str)) = some (decide (x ∈ xs)) := by
  unfold inD
  simp only [toPy, toPys_str, shaped_str h, shaped_strs hx, Bool.and_self, if_true]
  congr 1
  (rw [Bool.eq_iff_iff, List.any_eq_true, decide_eq_true_eq])
  constructor
  · rintro ⟨z, hz, e⟩
    obtain ⟨y, hy, rfl⟩ := List.mem_map.mp hz
    rw [PyData.eqv] at e
    have := (beq_iff_eq (a := y) (b := x)).mp e
    exact this ▸ hy
  · intro hx
    exact ⟨_, List.mem_map_of_mem hx, by rw [PyData.eqv]; simp⟩
/-- a pair of texts -/
def pD (q : Str × Str) : D := .tup [.str q.1, .str q.2]
def pP (q : Str × Str) : PyData := .tuple [.str q.1, .str q.2]
theorem toPy_pD (q : Str × Str) : toPy (pD q) = some (pP q) := by simp [pD, pP, toPy, toPys]
theorem toPys_pD (xs : List (Str × Str)) : toPys (xs.map pD) = some (xs.map pP) := by
  induction xs with
  | nil => rfl
  | cons x xs ih => rw [List.map_cons, toPys, toPy_pD, ih]; rfl
theorem eqv_pP (p q : Str × Str) : PyData.eqv (pP p) (pP q) = decide (p = q) := by
  obtain ⟨a, b⟩ := p
  obtain ⟨c, d⟩ := q
  have := eqvAll_str [a, b] [c, d]
  simp only [List.map_cons, List.map_nil] at this
  simp only [pP, PyData.eqv, this]
  by_cases e : a = c <;> by_cases e2 : b = d <;> simp [e, e2]
def okP (q : Str × Str) : Prop := okS q.1 ∧ okS q.2
theorem canLay_pP {q : Str × Str} (h : okP q) : PyData.canLay0 (pP q) = true := by
  have := canLayAll_str (xs := [q.1, q.2]) (by simp; exact h)
  simpa [pP, PyData.canLay0] using this
theorem depth_pP (q : Str × Str) : PyData.depth (pP q) = 1 := by
  have := depthAll_str [q.1, q.2]
  simp only [List.map_cons, List.map_nil] at this
  simp [pP, PyData.depth, this]
theorem shaped_pP {q : Str × Str} (h : okP q) : SeqAt.shaped (pP q) = true := by
  unfold SeqAt.shaped
  rw [canLay_pP h, depth_pP]
  decide
theorem shaped_pPs {xs : List (Str × Str)} (h : ∀ q ∈ xs, okP q) : SeqAt.shaped (.list (xs.map pP)) = true := by
  have h1 : PyData.canLayAll0 (xs.map pP) = true := by
    induction xs with
    | nil => rfl
    | cons x xs ih => rw [List.map_cons, PyData.canLayAll0, canLay_pP (h x (List.mem_cons_self ..)), ih fun q hq => h q (List.mem_cons_of_mem _ hq)]; rfl
  have h2 : PyData.depthAll (xs.map pP) ≤ 1 := by
    clear h1 h
    induction xs with
    | nil => exact Nat.zero_le 1
    | cons x xs ih => rw [List.map_cons, PyData.depthAll, depth_pP]; omega
  unfold SeqAt.shaped
  rw [PyData.canLay0, PyData.depth, h1, Bool.true_and]
  (exact decide_eq_true (by omega))
theorem inD_pairs {q : Str × Str} {xs : List (Str × Str)} (h : okP q) (hx : ∀ q ∈ xs, okP q) : inD (pD q) (.lst (xs.map pD)) = some (decide (q ∈ xs)) := by
  unfold inD
  simp only [toPy_pD, toPys_pD, shaped_pP h, shaped_pPs hx, Bool.and_self, if_true]
  congr 1
  (rw [Bool.eq_iff_iff, List.any_eq_true, decide_eq_true_eq])
  constructor
  · rintro ⟨z, hz, e⟩
    obtain ⟨y, hy, rfl⟩ := List.mem_map.mp hz
    rw [eqv_pP, decide_eq_true_eq] at e
    exact e ▸ hy
  · intro hx
    exact ⟨_, List.mem_map_of_mem hx, by rw [eqv_pP]; simp⟩
theorem eqD_pairs_nil {xs : List (Str × Str)} (hx : ∀ q ∈ xs, okP q) : eqD (.lst (xs.map pD)) (.lst []) = some xs.isEmpty := by
  have h0 : SeqAt.shaped (.list []) = true := by decide
  unfold eqD
  simp only [toPy, toPys_pD, toPys, Option.map_some, shaped_pPs hx, h0, Bool.and_self, if_true]
  cases xs <;> simp [PyData.eqv, PyData.eqvAll]
theorem idxD_strs {x : Str} {xs : List Str} (h : okS x) (hx : ∀ x ∈ xs, okS x) (hm : x ∈ xs) : idxD (.lst (xs.map .str)) (.str x) = some (.int (xs.idxOf x : Nat)) := by
  unfold idxD
  simp only [toPy, toPys_str, shaped_str h, shaped_strs hx, Bool.and_self, if_true]
  have : (xs.map PyData.str).findIdx? (fun z => PyData.eqv z (.str x)) = some (xs.idxOf x) := by
    clear hx
    induction xs with
    | nil => cases hm
    | cons y xs ih =>
      rw [List.map_cons, List.findIdx?_cons, PyData.eqv]
      by_cases e : y = x
      · subst e; simp
      · have hm' : x ∈ xs := by
          (rcases List.mem_cons.mp hm with rfl | hm)
          · exact absurd rfl e
          · exact hm
        have e1 : (y == x) = false := by simpa using e
        rw [e1, ih hm']
        simp [List.idxOf_cons, e1]
  rw [this]
  rfl
end IR
namespace IR
open L2
open PySem (Str PyData)
/-- a word of small letters -/
def okW (x : Str) : Prop := 0 < x.length ∧ x.length ≤ 8 ∧ ∀ c ∈ x.cps.toList, 97 ≤ c ∧ c ≤ 122
theorem okW.s {x : Str} (h : okW x) : okS x := by
  unfold okS PyData.strOk
  rw [Array.all_eq_true']
  intro c hc
  have := h.2.2 c (by simpa using hc)
  (exact decide_eq_true (by omega))
theorem letter {c : Nat} (h : 97 ≤ c ∧ c ≤ 122) : inD (.str ⟨#[c]⟩) (.str "abcdefghijklmnopqrstuvwxyz") = some true := by
  unfold inD
  simp only
  rw [PySem.StrLaws.found_one]
  have : c ∈ (("abcdefghijklmnopqrstuvwxyz" : Str)).cps.toList := by
    have e : (("abcdefghijklmnopqrstuvwxyz" : Str)).cps.toList = (List.range 26).map (97 + ·) := by decide +kernel
    rw [e]
    exact List.mem_map.mpr ⟨c - 97, List.mem_range.mpr (by omega), by omega⟩
  rw [decide_eq_true this]
theorem blsOf_true {α : Type} (xs : List α) : blsOf (xs.map fun _ => D.bl true) = some (xs.map fun _ => true) := by
  induction xs with
  | nil => rfl
  | cons x xs ih => rw [List.map_cons, blsOf, ih]; rfl
theorem blsOf_map {α : Type} (f : α → Bool) (xs : List α) : blsOf (xs.map fun x => D.bl (f x)) = some (xs.map f) := by
  induction xs with
  | nil => rfl
  | cons x xs ih => rw [List.map_cons, blsOf, ih]; rfl
@[simp] theorem strSigns_len (x : Str) : (strSigns x).length = x.length := by simp [strSigns, PySem.Str.length]
theorem enumD_map {α : Type} (enc : α → D) (xs : List α) (n : Nat) : enumD n (xs.map enc) = (xs.zipIdx n).map fun q => .tup [.int q.2, enc q.1] := by
  induction xs generalizing n with
  | nil => rfl
  | cons x xs ih => rw [List.map_cons, enumD, ih, List.zipIdx_cons, List.map_cons]
@[simp] theorem aw_of {α : Type} (x : Option α) (s : DS) (a : α) (h : x = some a) : Out.of x s = .ok a s := by rw [h]; rfl
theorem cut_to {α : Type} (xs : List α) (n : Nat) : cutL xs none (some (n : Int)) = xs.take n := by
  unfold cutL
  rw [HT.sIx_none, HT.sIx_nat, List.drop_zero, Nat.sub_zero, Nat.min_comm]
  by_cases h : n ≤ xs.length
  · rw [Nat.min_eq_right h]
  · rw [Nat.min_eq_left (by omega), List.take_length, List.take_of_length_le (by omega)]
theorem cut_from {α : Type} (xs : List α) (n : Nat) : cutL xs (some (n : Int)) none = xs.drop n := by
  unfold cutL
  rw [HT.sIx_none, HT.sIx_nat]
  by_cases h : n ≤ xs.length
  · (rw [Nat.min_eq_left h, List.take_of_length_le (by simp)])
  · rw [Nat.min_eq_right (by omega)]
    simp
    omega
@[simp] theorem cutL_map {α β : Type} (f : α → β) (xs : List α) (a b : Option Int) : cutL (xs.map f) a b = (cutL xs a b).map f := by
  unfold cutL
  simp [List.map_drop, List.map_take]
@[simp] theorem atI_map {α β : Type} (f : α → β) (xs : List α) (i : Int) : atI (xs.map f) i = (atI xs i).map f := by
  unfold atI
  simp only [List.length_map, List.getElem?_map]
  cases ixN xs.length i <;> rfl
theorem atI_0 {α : Type} (x : α) (xs : List α) : atI (x :: xs) 0 = some x := atI_nat (j := 0) (by rfl)
theorem atI_1 {α : Type} (x y : α) (xs : List α) : atI (x :: y :: xs) 1 = some y := atI_nat (j := 1) (by rfl)
theorem atI_2 {α : Type} (x y z : α) (xs : List α) : atI (x :: y :: z :: xs) 2 = some z := atI_nat (j := 2) (by rfl)
theorem atI_3 {α : Type} (x y z u : α) (xs : List α) : atI (x :: y :: z :: u :: xs) 3 = some u := atI_nat (j := 3) (by rfl)
end IR
namespace IR
open L2
open PySem (Str PyData)
/-! ## rows and boxes -/
abbrev Row := Str × Str × Str × Str
structure Raw where
  st : List Str
  bt : List Str
  rw : List Row
def rowD (r : Row) : D := .tup [.str r.1, .str r.2.1, .str r.2.2.1, .str r.2.2.2]
def kyP (q : Str × Str) : Ky := .t [.inr q.1, .inr q.2]
def rkey (r : Row) : Str × Str := (r.1, r.2.1)
def rval (r : Row) : Str × Str := r.2.2
theorem kyP_inj {p q : Str × Str} (h : kyP p = kyP q) : p = q := by
  obtain ⟨a, b⟩ := p
  obtain ⟨c, d⟩ := q
  unfold kyP at h
  simp at h
  rw [h.1, h.2]
@[simp] theorem kyP_eq {p q : Str × Str} : kyP p = kyP q ↔ p = q := ⟨kyP_inj, fun h => by rw [h]⟩
@[simp] theorem keyOf_ss (a b : Str) : keyOf (.tup [.str a, .str b]) = some (kyP (a, b)) := rfl
@[simp] theorem keyOf_pD (q : Str × Str) : keyOf (pD q) = some (kyP q) := rfl
@[simp] theorem kyKind_P (q : Str × Str) : kyKind (kyP q) = true := rfl
structure RawOk (R : Raw) : Prop where
  stn : R.st.Nodup
  stw : ∀ x ∈ R.st, okW x
  st0 : R.st ≠ []
  stl : R.st.length ≤ 8
  btn : R.bt.Nodup
  btw : ∀ x ∈ R.bt, okW x
  bt0 : R.bt ≠ []
  btl : R.bt.length ≤ 8
  rws : ∀ r ∈ R.rw, r.1 ∈ R.st ∧ r.2.1 ∈ R.bt ∧ okW r.2.2.1 ∧ r.2.2.2 ∈ R.st
  key : (R.rw.map rkey).Nodup
theorem nodup_len {α : Type} [DecidableEq α] {xs ys : List α} (h : xs.Nodup) (s : ∀ x ∈ xs, x ∈ ys) : xs.length ≤ ys.length := by
  induction xs generalizing ys with
  | nil => exact Nat.zero_le _
  | cons x xs ih =>
    have hx := s x (List.mem_cons_self ..)
    have h1 := List.nodup_cons.mp h
    have := ih (ys := ys.erase x) h1.2 fun y hy => (List.mem_erase_of_ne (fun (e : y = x) => h1.1 (e ▸ hy))).mpr (s y (List.mem_cons_of_mem _ hy))
    rw [List.length_erase_of_mem hx] at this
    have := List.length_pos_of_mem hx
    simp only [List.length_cons]
    omega
def prodL (xs ys : List Str) : List (Str × Str) := xs.flatMap fun x => ys.map fun y => (x, y)
theorem mem_prodL {xs ys : List Str} {q : Str × Str} : q ∈ prodL xs ys ↔ q.1 ∈ xs ∧ q.2 ∈ ys := by
  unfold prodL
  simp only [List.mem_flatMap, List.mem_map]
  constructor
  · rintro ⟨x, hx, y, hy, rfl⟩
    exact ⟨hx, hy⟩
  · rintro ⟨h1, h2⟩
    exact ⟨q.1, h1, q.2, h2, rfl⟩
theorem len_prodL (xs ys : List Str) : (prodL xs ys).length = xs.length * ys.length := by
  unfold prodL
  induction xs with
  | nil => simp
  | cons x xs ih =>
    rw [List.flatMap_cons, List.length_append, ih, List.length_map, List.length_cons, Nat.add_mul]
    omega
theorem pairs_len {xs ys : List Str} {zs : List (Str × Str)} (h : zs.Nodup) (s : ∀ q ∈ zs, q.1 ∈ xs ∧ q.2 ∈ ys) : zs.length ≤ xs.length * ys.length := by
  rw [← len_prodL]
  exact nodup_len h fun q hq => mem_prodL.mpr (s q hq)
theorem RawOk.rwl {R : Raw} (h : RawOk R) : R.rw.length ≤ 64 := by
  have := pairs_len (xs := R.st) (ys := R.bt) h.key fun q hq => by
    obtain ⟨r, hr, rfl⟩ := List.mem_map.mp hq
    exact ⟨(h.rws r hr).1, (h.rws r hr).2.1⟩
  rw [List.length_map] at this
  have := Nat.mul_le_mul h.stl h.btl
  omega
theorem RawOk.ss {R : Raw} (h : RawOk R) : ∀ x ∈ R.st, okS x := fun x hx => (h.stw x hx).s
theorem RawOk.bs {R : Raw} (h : RawOk R) : ∀ x ∈ R.bt, okS x := fun x hx => (h.btw x hx).s
def rawD (R : Raw) : D := .lst [.lst (R.st.map .str), .lst (R.bt.map .str), .lst (R.rw.map rowD)]
def tabD (R : Raw) : List (Ky × D) := R.rw.map fun r => (kyP (rkey r), pD (rval r))
/-- what stands at a state and a button -/
def look (R : Raw) (s b : Str) : Option (Str × Str) := (R.rw.find? fun r => decide (rkey r = (s, b))).map rval
theorem dget_tab (R : Raw) (s b : Str) : dget (tabD R) (kyP (s, b)) = (look R s b).map pD := by
  unfold dget tabD look
  induction R.rw with
  | nil => rfl
  | cons r rs ih =>
    rw [List.map_cons, List.find?_cons, List.find?_cons]
    by_cases e : rkey r = (s, b)
    · simp [e]
    · have e1 : decide (rkey r = (s, b)) = false := decide_eq_false e
      have e2 : decide (kyP (rkey r) = kyP (s, b)) = false := decide_eq_false fun h => e (kyP_inj h)
      simp only [e1, e2]
      exact ih
theorem look_some {R : Raw} {s b w t : Str} (h : look R s b = some (w, t)) : (s, b, w, t) ∈ R.rw := by
  unfold look at h
  obtain ⟨r, hr, e⟩ := Option.map_eq_some_iff.mp h
  have h1 := List.mem_of_find?_eq_some hr
  have h2 := of_decide_eq_true (List.find?_some (p := fun r => decide (rkey r = (s, b))) hr)
  obtain ⟨a, b', w', t'⟩ := r
  unfold rkey at h2
  unfold rval at e
  simp at h2 e
  obtain ⟨rfl, rfl⟩ := h2
  obtain ⟨rfl, rfl⟩ := e
  exact h1
theorem look_mem {R : Raw} (ok : RawOk R) {r : Row} (h : r ∈ R.rw) : look R r.1 r.2.1 = some r.2.2 := by
  unfold look
  have key := ok.key
  clear ok
  generalize R.rw = l at h key ⊢
  induction l with
  | nil => cases h
  | cons q rs ih =>
    rw [List.find?_cons]
    rw [List.map_cons, List.nodup_cons] at key
    (rcases List.mem_cons.mp h with rfl | h)
    · have : decide (rkey r = (r.1, r.2.1)) = true := decide_eq_true rfl
      rw [this]
      rfl
    · have : decide (rkey q = (r.1, r.2.1)) = false := decide_eq_false fun e => key.1 (by rw [e]; exact List.mem_map_of_mem (f := rkey) h)
      rw [this]
      exact ih h key.2
theorem look_ok {R : Raw} (ok : RawOk R) {s b w t : Str} (h : look R s b = some (w, t)) : s ∈ R.st ∧ b ∈ R.bt ∧ okW w ∧ t ∈ R.st := ok.rws _ (look_some h)
theorem dcM_pure {α : Type} {t : Bool} {p : Pt} {ρ : Env} {cnd kx vx : Env → DS → Out D} {enc : α → D} {xs : List α} {s : DS} {acc : List (Ky × D)} (kk kd : α → D) (ky : α → Ky) (ρ' : α → Env)
    (h : ∀ x ∈ xs, asgP p (enc x) ρ = some (ρ' x) ∧ cnd (ρ' x) s = .ok (.bl true) s ∧ kx (ρ' x) s = .ok (kk x) s ∧ vx (ρ' x) s = .ok (kd x) s ∧ keyOf (kk x) = some (ky x) ∧ kyKind (ky x) = t)
    (hn : (acc.map (·.1) ++ xs.map ky).Nodup) (hl : acc.length + xs.length ≤ lim) : dcM t p ρ cnd kx vx (xs.map enc) acc s = .ok (acc ++ xs.map fun x => (ky x, kd x)) s := by
  induction (xs) generalizing acc with
  | nil => simp [dcM]
  | cons x xs ih =>
    obtain ⟨e1, e2, e3, e4, e5, e6⟩ := h x (List.mem_cons_self ..)
    rw [List.map_cons, dcM, e1]
    dsimp only
    rw [e2]
    dsimp only
    rw [e3]
    dsimp only
    rw [e4]
    dsimp only
    rw [e5]
    dsimp only
    simp only [List.length_cons] at hl
    rw [if_pos ⟨e6, by omega⟩]
    have hx : (acc.any fun q => decide (q.1 = ky x)) = false := by
      rw [Bool.eq_false_iff]
      intro q
      obtain ⟨z, hz, e⟩ := List.any_eq_true.mp q
      have e := of_decide_eq_true e
      rw [List.nodup_append] at hn
      exact hn.2.2 (ky x) (e ▸ List.mem_map_of_mem (f := (·.1)) hz) (ky x) (List.mem_map_of_mem (List.mem_cons_self ..)) rfl
    have ed : dput acc (ky x) (kd x) = acc ++ [(ky x, kd x)] := by
      unfold dput
      rw [hx]
      rfl
    rw [ed, ih (fun y hy => h y (List.mem_cons_of_mem _ hy)) (by simpa using hn) (by simp; omega)]
    simp
theorem zipIdx_split {α : Type} {xs : List α} {n : Nat} : ∀ {pre post : List (α × Nat)} {x : α} {i : Nat}, xs.zipIdx n = pre ++ (x, i) :: post → i = n + pre.length ∧ xs = pre.map (·.1) ++ x :: post.map (·.1) := by
  intro pre
  induction pre generalizing xs n with
  | nil =>
    intro post x i h
    cases xs with
    | nil => simp at h
    | cons y ys =>
      rw [List.zipIdx_cons, List.nil_append] at h
      obtain ⟨h1, h2⟩ := List.cons.inj h
      obtain ⟨rfl, rfl⟩ := Prod.mk.inj h1
      refine ⟨by simp, ?_⟩
      rw [← h2]
      simp
  | cons p pre ih =>
    intro post x i h
    cases xs with
    | nil => simp at h
    | cons y ys =>
      rw [List.zipIdx_cons, List.cons_append] at h
      obtain ⟨h1, h2⟩ := List.cons.inj h
      obtain ⟨e1, e2⟩ := ih h2
      refine ⟨by simp; omega, ?_⟩
      rw [List.map_cons, List.cons_append, ← e2, ← h1]
end IR
namespace IR
open L2
open PySem (Str PyData)
theorem le_lim {n : Nat} (h : n ≤ 16777216) : n ≤ lim := h
theorem lt_lim {n : Nat} (h : n < 16777216) : n < lim := h
theorem lcM_map {α : Type} {p : Pt} {ρ : Env} {elt : Env → DS → Out D} {enc : α → D} {xs : List α} {s : DS} (g : α → D) (ρ' : α → Env)
    (h : ∀ x ∈ xs, asgP p (enc x) ρ = some (ρ' x) ∧ elt (ρ' x) s = .ok (g x) s) : lcM p ρ (fun _ s => .ok (.bl true) s) elt (xs.map enc) s = .ok (xs.map g) s := by
  have := lcM_pure (cnd := fun _ s => .ok (.bl true) s) (s := s) (fun _ => true) g ρ' fun x hx => ⟨(h x hx).1, rfl, fun _ => (h x hx).2⟩
  rw [this, List.filter_eq_self.mpr fun _ _ => rfl]
end IR
namespace IR
@[simp] theorem lim1 : (1 ≤ lim) = True := eq_true (by decide)
@[simp] theorem lim2 : (2 ≤ lim) = True := eq_true (by decide)
@[simp] theorem lim3 : (3 ≤ lim) = True := eq_true (by decide)
@[simp] theorem lim4 : (4 ≤ lim) = True := eq_true (by decide)
@[simp] theorem lim5 : (5 ≤ lim) = True := eq_true (by decide)
end IR
namespace IR
open L2
open PySem (Str PyData)
/-! ## presses -/
def play (R : Raw) : Str → List Str → Option (List Str × Str)
  | s, [] => some ([], s)
  | s, b :: bs => match look R s b with
    | none => none
    | some (w, t) => (play R t bs).map fun q => (w :: q.1, q.2)
theorem play_append (R : Raw) (s : Str) (as bs : List Str) : play R s (as ++ bs) = (play R s as).bind fun q => (play R q.2 bs).map fun p => (q.1 ++ p.1, p.2) := by
  induction as generalizing s with
  | nil =>
    simp only [List.nil_append, play, Option.bind_some]
    cases play R s bs <;> rfl
  | cons a as ih =>
    rw [List.cons_append, play, play]
    cases look R s a with
    | none => rfl
    | some q =>
      obtain ⟨w, t⟩ := q
      simp only [ih]
      cases play R t as with
      | none => rfl
      | some p =>
        simp only [Option.bind_some, Option.map_some]
        cases play R p.2 bs <;> rfl
theorem play_one (R : Raw) (s : Str) (as : List Str) (b : Str) : play R s (as ++ [b]) = (play R s as).bind fun q => (look R q.2 b).map fun p => (q.1 ++ [p.1], p.2) := by
  rw [play_append]
  congr 1
  funext q
  rw [play]
  cases look R q.2 b with
  | none => rfl
  | some p => rfl
theorem play_len {R : Raw} {s : Str} {as ws : List Str} {t : Str} (h : play R s as = some (ws, t)) : ws.length = as.length := by
  induction as generalizing s ws with
  | nil =>
    simp [play] at h
    rw [h.1.symm]
  | cons a as ih =>
    rw [play] at h
    cases e : look R s a with
    | none => (rw [e] at h; cases h)
    | some q =>
      rw [e] at h
      (simp only [Option.map_eq_some_iff] at h)
      obtain ⟨p, e2, e3⟩ := h
      simp at e3
      rw [← e3.1, List.length_cons, ih (ws := p.1) (by rw [e2, ← e3.2]), List.length_cons]
theorem play_ok {R : Raw} (ok : RawOk R) {s : Str} {as ws : List Str} {t : Str} (hs : s ∈ R.st) (h : play R s as = some (ws, t)) : (∀ b ∈ as, b ∈ R.bt) ∧ (∀ w ∈ ws, okW w) ∧ t ∈ R.st := by
  induction as generalizing s ws with
  | nil =>
    simp [play] at h
    obtain ⟨rfl, rfl⟩ := h
    exact ⟨by simp, by simp, hs⟩
  | cons a as ih =>
    rw [play] at h
    cases e : look R s a with
    | none => (rw [e] at h; cases h)
    | some q =>
      obtain ⟨w, u⟩ := q
      rw [e] at h
      (simp only [Option.map_eq_some_iff] at h)
      obtain ⟨p, e2, e3⟩ := h
      simp at e3
      obtain ⟨rfl, rfl⟩ := e3
      obtain ⟨h1, h2, h3, h4⟩ := look_ok ok e
      obtain ⟨i1, i2, i3⟩ := ih h4 e2
      refine ⟨?_, ?_, i3⟩
      · intro b hb
        (rcases List.mem_cons.mp hb with rfl | hb)
        · exact h2
        · exact i1 b hb
      · intro b hb
        (rcases List.mem_cons.mp hb with rfl | hb)
        · exact h3
        · exact i2 b hb
def lookD (o : Option (Str × Str)) : D := match o with
  | some q => pD q
  | none => .non
def playD (o : Option (List Str × Str)) : D := match o with
  | some q => .tup [.lst (q.1.map .str), .str q.2]
  | none => .non
/-- a pair in the box's order -/
def pairOf (R : Raw) (s t : Str) : Str × Str := if R.st.idxOf s ≤ R.st.idxOf t then (s, t) else (t, s)
/-- two unlike buttons of a state that show one word: (state, one, two, mine, theirs) -/
abbrev Tw := Str × Str × Str × Str × Str
def twD (q : Tw) : D := .tup [.str q.1, .str q.2.1, .str q.2.2.1, .str q.2.2.2.1, .str q.2.2.2.2]
def thereAt (R : Raw) (s : Str) : List Str := R.bt.filter fun b => (look R s b).isSome
def twin1 (R : Raw) (s one two : Str) : List Tw := match look R s one, look R s two with
  | some (w, m), some (w', t) => if w = w' then [(s, one, two, m, t)] else []
  | _, _ => []
def tw2 (R : Raw) (s : Str) (q : Str × Nat) : List Tw := ((thereAt R s).drop (q.2 + 1)).flatMap (twin1 R s q.1)
def tw3 (R : Raw) (s : Str) : List Tw := (thereAt R s).zipIdx.flatMap (tw2 R s)
def firstTw (R : Raw) : List Tw := R.st.flatMap (tw3 R)
abbrev Nx := Str × Str × Str × Str
def nxD (q : Nx) : D := .tup [.str q.1, .str q.2.1, .str q.2.2.1, .str q.2.2.2]
def nx1 (R : Raw) (s t one two : Str) : List Nx := match look R s one, look R t two with
  | some (w, m), some (w', u) => if w = w' then [(one, two, m, u)] else []
  | _, _ => []
def nx2 (R : Raw) (s t one : Str) : List Nx := R.bt.flatMap (nx1 R s t one)
def nextTw (R : Raw) (s t : Str) : List Nx := R.bt.flatMap (nx2 R s t)
end IR
namespace IR
@[simp] theorem isNop_nop : E.isNop .nop = true := rfl
@[simp] theorem isNop_rv (i : Nat) : E.isNop (.rv i) = false := rfl
@[simp] theorem isNop_v (i : Nat) : E.isNop (.v i) = false := rfl
@[simp] theorem isNop_c (d : D) : E.isNop (.c d) = false := rfl
@[simp] theorem isNop_bin (o : Bop) (a b : E) : E.isNop (.bin o a b) = false := rfl
@[simp] theorem isNop_call (f : Nat) (es : Es) : E.isNop (.call f es) = false := rfl
@[simp] theorem isNop_sub (a i : E) : E.isNop (.sub a i) = false := rfl
@[simp] theorem isNop_bi (a : Bi) (i : Es) : E.isNop (.bi a i) = false := rfl
end IR
namespace IR
@[simp] theorem asgP_n (i : Nat) (d : D) (ρ : Env) : asgP (.n i) d ρ = some (ρ.set i (.sh d)) := by rw [asgP]
@[simp] theorem asgP_t (ps : Pt) (ds : List D) (ρ : Env) : asgP (.t ps) (.tup ds) ρ = asgP.asgPs ps ds ρ := by rw [asgP]
@[simp] theorem asgPs_nil (ρ : Env) : asgP.asgPs .nil [] ρ = some ρ := by rw [asgP.asgPs]
@[simp] theorem asgPs_cons (p r : Pt) (d : D) (ds : List D) (ρ : Env) : asgP.asgPs (.cons p r) (d :: ds) ρ = (asgP p d ρ).bind fun ρ => asgP.asgPs r ds ρ := by rw [asgP.asgPs]
end IR
end
section
set_option Elab.async false
set_option linter.all false
set_option maxRecDepth 100000
set_option maxHeartbeats 4100000
namespace IR
open L2
open PySem (Str PyData)
theorem flatMap_len {α β : Type} {xs : List α} {f : α → List β} {c : Nat} (h : ∀ x ∈ xs, (f x).length ≤ c) : (xs.flatMap f).length ≤ xs.length * c := by
  induction xs with
  | nil => simp
  | cons x xs ih =>
    (have h1 := h x (List.mem_cons_self ..))
    have h2 := ih fun y hy => h y (List.mem_cons_of_mem _ hy)
    rw [List.flatMap_cons, List.length_append, List.length_cons, Nat.add_mul]
    omega
theorem twin1_len (R : Raw) (s a b : Str) : (twin1 R s a b).length ≤ 1 := by
  unfold twin1
  split
  · split <;> simp
  · simp
theorem nx1_len (R : Raw) (s t a b : Str) : (nx1 R s t a b).length ≤ 1 := by
  unfold nx1
  split
  · split <;> simp
  · simp
theorem there_len {R : Raw} (ok : RawOk R) (s : Str) : (thereAt R s).length ≤ 8 := Nat.le_trans (List.length_filter_le _ _) ok.btl
theorem tw2_len {R : Raw} (ok : RawOk R) (s : Str) (q : Str × Nat) : (tw2 R s q).length ≤ 8 := by
  have h1 := flatMap_len (xs := (thereAt R s).drop (q.2 + 1)) (f := twin1 R s q.1) (c := 1) fun x _ => twin1_len R s q.1 x
  have h2 : ((thereAt R s).drop (q.2 + 1)).length ≤ 8 := Nat.le_trans (by simp) (there_len ok s)
  unfold tw2
  omega
theorem tw3_len {R : Raw} (ok : RawOk R) (s : Str) : (tw3 R s).length ≤ 64 := by
  have h1 := flatMap_len (xs := (thereAt R s).zipIdx) (f := tw2 R s) (c := 8) fun x _ => tw2_len ok s x
  have h2 := there_len ok s
  rw [List.length_zipIdx] at h1
  unfold tw3
  omega
theorem firstTw_len {R : Raw} (ok : RawOk R) : (firstTw R).length ≤ 512 := by
  have h1 := flatMap_len (xs := R.st) (f := tw3 R) (c := 64) fun x _ => tw3_len ok x
  have h2 := ok.stl
  unfold firstTw
  omega
theorem nx2_len {R : Raw} (ok : RawOk R) (s t one : Str) : (nx2 R s t one).length ≤ 8 := by
  have h1 := flatMap_len (xs := R.bt) (f := nx1 R s t one) (c := 1) fun x _ => nx1_len R s t one x
  have := ok.btl
  unfold nx2
  omega
theorem nextTw_len {R : Raw} (ok : RawOk R) (s t : Str) : (nextTw R s t).length ≤ 64 := by
  have h1 := flatMap_len (xs := R.bt) (f := nx2 R s t) (c := 8) fun x _ => nx2_len ok s t x
  have := ok.btl
  unfold nextTw
  omega
end IR
end
section
set_option Elab.async false
set_option linter.all false
set_option maxRecDepth 100000
set_option maxHeartbeats 4100000
namespace IR
open L2
open PySem (Str PyData)
abbrev Pr := Str × Str
def addP (acc : List Pr) (q : Pr) : List Pr := if q ∈ acc then acc else acc ++ [q]
def dedP (xs : List Pr) : List Pr := xs.foldl addP []
theorem mem_addP {acc : List Pr} {q p : Pr} : p ∈ addP acc q ↔ p ∈ acc ∨ p = q := by
  unfold addP
  by_cases h : q ∈ acc
  · rw [if_pos h]
    exact ⟨.inl, fun x => x.elim id fun e => e ▸ h⟩
  · rw [if_neg h]
    simp
theorem nodup_addP {acc : List Pr} {q : Pr} (h : acc.Nodup) : (addP acc q).Nodup := by
  unfold addP
  by_cases e : q ∈ acc
  · rw [if_pos e]; exact h
  · rw [if_neg e, List.nodup_append]
    refine ⟨h, by simp, fun a ha b hb => ?_⟩
    simp at hb
    subst hb
    exact fun z => e (z ▸ ha)
theorem mem_foldP {xs acc : List Pr} {p : Pr} : p ∈ xs.foldl addP acc ↔ p ∈ acc ∨ p ∈ xs := by
  induction (xs) generalizing acc with
  | nil => simp
  | cons x xs ih =>
    rw [List.foldl_cons, ih, mem_addP, List.mem_cons, or_assoc]
theorem nodup_foldP {xs acc : List Pr} (h : acc.Nodup) : (xs.foldl addP acc).Nodup := by
  induction (xs) generalizing acc with
  | nil => exact h
  | cons x xs ih => exact ih (nodup_addP h)
theorem mem_dedP {xs : List Pr} {p : Pr} : p ∈ dedP xs ↔ p ∈ xs := by
  unfold dedP
  rw [mem_foldP]
  simp
theorem nodup_dedP {xs : List Pr} : (dedP xs).Nodup := nodup_foldP List.nodup_nil
def nxP (R : Raw) (q : Nx) : Pr := pairOf R q.2.2.1 q.2.2.2
def twP (R : Raw) (q : Tw) : Pr := pairOf R q.2.2.2.1 q.2.2.2.2
/-- the pairs behind a pair -/
def behind (R : Raw) (p : Pr) : List Pr := dedP ((nextTw R p.1 p.2).map (nxP R))
def firstP (R : Raw) : List Pr := dedP ((firstTw R).map (twP R))
inductive Reach (R : Raw) : Pr → Prop
  | first {p : Pr} (h : p ∈ firstP R) : Reach R p
  | next {p q : Pr} (h : Reach R p) (hq : q ∈ behind R p) : Reach R q
/-- a way of so many steps -/
def HP (R : Raw) : Nat → Pr → Prop
  | 0, _ => True
  | n + 1, p => ∃ q, q ∈ behind R p ∧ HP R n q
theorem HP.le {R : Raw} {n m : Nat} {p : Pr} (h : HP R n p) (l : m ≤ n) : HP R m p := by
  induction m generalizing n p with
  | zero => trivial
  | succ m ih =>
    (obtain ⟨j, rfl⟩ : ∃ j, n = j + 1 := ⟨n - 1, by omega⟩)
    obtain ⟨q, hq, h⟩ := h
    exact ⟨q, hq, ih h (by omega)⟩
theorem mem_nx1 {R : Raw} {s t a b : Str} {q : Nx} : q ∈ nx1 R s t a b ↔ ∃ w, q.1 = a ∧ q.2.1 = b ∧ look R s a = some (w, q.2.2.1) ∧ look R t b = some (w, q.2.2.2) := by
  unfold nx1
  obtain ⟨c, d, m, u⟩ := q
  cases e1 : look R s a with
  | none => simp
  | some x =>
    obtain ⟨w1, t1⟩ := x
    cases e2 : look R t b with
    | none => simp
    | some y =>
      obtain ⟨w2, t2⟩ := y
      dsimp only
      by_cases e : w1 = w2
      · subst e
        rw [if_pos rfl, List.mem_singleton]
        constructor
        · intro h
          obtain ⟨rfl, rfl, rfl, rfl⟩ := by simpa using h
          exact ⟨w1, rfl, rfl, rfl, rfl⟩
        · rintro ⟨w, rfl, rfl, h1, h2⟩
          cases h1
          cases h2
          rfl
      · rw [if_neg e]
        refine ⟨fun h => absurd h List.not_mem_nil, ?_⟩
        rintro ⟨w, _, _, h1, h2⟩
        cases h1
        cases h2
        exact absurd rfl e
theorem mem_nextTw {R : Raw} {s t : Str} {q : Nx} : q ∈ nextTw R s t ↔ ∃ w, q.1 ∈ R.bt ∧ q.2.1 ∈ R.bt ∧ look R s q.1 = some (w, q.2.2.1) ∧ look R t q.2.1 = some (w, q.2.2.2) := by
  unfold nextTw nx2
  simp only [List.mem_flatMap, mem_nx1]
  constructor
  · rintro ⟨a, ha, b, hb, w, rfl, rfl, h1, h2⟩
    exact ⟨w, ha, hb, h1, h2⟩
  · rintro ⟨w, ha, hb, h1, h2⟩
    exact ⟨_, ha, _, hb, w, rfl, rfl, h1, h2⟩
theorem pairOf_mem {R : Raw} {s t : Str} (hs : s ∈ R.st) (ht : t ∈ R.st) : (pairOf R s t).1 ∈ R.st ∧ (pairOf R s t).2 ∈ R.st := by
  unfold pairOf
  split
  · exact ⟨hs, ht⟩
  · exact ⟨ht, hs⟩
theorem pairOf_or (R : Raw) (s t : Str) : pairOf R s t = (s, t) ∨ pairOf R s t = (t, s) := by
  unfold pairOf
  split
  · exact .inl rfl
  · exact .inr rfl
theorem pairOf_comm {R : Raw} {s t : Str} (hs : s ∈ R.st) (ht : t ∈ R.st) : pairOf R s t = pairOf R t s := by
  unfold pairOf
  by_cases h : R.st.idxOf s ≤ R.st.idxOf t
  · by_cases h2 : R.st.idxOf t ≤ R.st.idxOf s
    · have e : R.st.idxOf s = R.st.idxOf t := by omega
      have e1 := List.getElem_idxOf (List.idxOf_lt_length_iff.mpr hs)
      have e2 := List.getElem_idxOf (List.idxOf_lt_length_iff.mpr ht)
      simp only [e] at e1
      have e3 : s = t := e1.symm.trans e2
      subst e3
      rfl
    · rw [if_pos h, if_neg h2]
  · rw [if_neg h, if_pos (by omega)]
theorem nextTw_ok {R : Raw} (ok : RawOk R) {s t : Str} {q : Nx} (h : q ∈ nextTw R s t) : q.2.2.1 ∈ R.st ∧ q.2.2.2 ∈ R.st := by
  obtain ⟨w, _, _, h1, h2⟩ := mem_nextTw.mp h
  exact ⟨(look_ok ok h1).2.2.2, (look_ok ok h2).2.2.2⟩
theorem mem_twin1 {R : Raw} {s a b : Str} {q : Tw} : q ∈ twin1 R s a b ↔ ∃ w, q.1 = s ∧ q.2.1 = a ∧ q.2.2.1 = b ∧ look R s a = some (w, q.2.2.2.1) ∧ look R s b = some (w, q.2.2.2.2) := by
  unfold twin1
  obtain ⟨x, c, d, m, u⟩ := q
  cases e1 : look R s a with
  | none => simp
  | some x =>
    obtain ⟨w1, t1⟩ := x
    cases e2 : look R s b with
    | none => simp
    | some y =>
      obtain ⟨w2, t2⟩ := y
      dsimp only
      by_cases e : w1 = w2
      · subst e
        rw [if_pos rfl, List.mem_singleton]
        constructor
        · intro h
          obtain ⟨rfl, rfl, rfl, rfl, rfl⟩ := by simpa using h
          exact ⟨w1, rfl, rfl, rfl, rfl, rfl⟩
        · rintro ⟨w, rfl, rfl, rfl, h1, h2⟩
          cases h1
          cases h2
          rfl
      · rw [if_neg e]
        refine ⟨fun h => absurd h List.not_mem_nil, ?_⟩
        rintro ⟨w, _, _, _, h1, h2⟩
        cases h1
        cases h2
        exact absurd rfl e
/-- what a first twin is -/
theorem firstTw_of {R : Raw} {q : Tw} (h : q ∈ firstTw R) : ∃ w, q.1 ∈ R.st ∧ look R q.1 q.2.1 = some (w, q.2.2.2.1) ∧ look R q.1 q.2.2.1 = some (w, q.2.2.2.2) ∧ ∃ i j : Nat, i < j ∧ (thereAt R q.1)[i]? = some q.2.1 ∧ (thereAt R q.1)[j]? = some q.2.2.1 := by
  unfold firstTw tw3 tw2 at h
  simp only [List.mem_flatMap, mem_twin1] at h
  obtain ⟨s, hs, p, hp, two, htwo, w, e1, e2, e3, h1, h2⟩ := h
  subst e1
  rw [← e2] at h1
  rw [← e3] at h2
  refine ⟨w, hs, h1, h2, p.2, ?_⟩
  obtain ⟨n, hn⟩ := List.mem_iff_getElem?.mp htwo
  rw [List.getElem?_drop] at hn
  refine ⟨p.2 + 1 + n, by omega, ?_, ?_⟩
  · have := List.mem_zipIdx_iff_getElem?.mp hp
    rw [this, e2]
  · rw [hn, e3]
theorem firstTw_mk {R : Raw} {s a b w t u : Str} {i j : Nat} (hs : s ∈ R.st) (hi : (thereAt R s)[i]? = some a) (hj : (thereAt R s)[j]? = some b) (hij : i < j) (h1 : look R s a = some (w, t)) (h2 : look R s b = some (w, u)) : (s, a, b, t, u) ∈ firstTw R := by
  unfold firstTw tw3 tw2
  simp only [List.mem_flatMap, mem_twin1]
  refine ⟨s, hs, (a, i), List.mem_zipIdx_iff_getElem?.mpr hi, b, ?_, w, rfl, rfl, rfl, h1, h2⟩
  rw [List.mem_iff_getElem?]
  exact ⟨j - (i + 1), by rw [List.getElem?_drop, ← hj]; congr 1; dsimp only; omega⟩
theorem firstTw_ok {R : Raw} (ok : RawOk R) {q : Tw} (h : q ∈ firstTw R) : q.1 ∈ R.st ∧ q.2.1 ∈ R.bt ∧ q.2.2.1 ∈ R.bt ∧ q.2.2.2.1 ∈ R.st ∧ q.2.2.2.2 ∈ R.st := by
  obtain ⟨w, h1, h2, h3, _⟩ := firstTw_of h
  exact ⟨h1, (look_ok ok h2).2.1, (look_ok ok h3).2.1, (look_ok ok h2).2.2.2, (look_ok ok h3).2.2.2⟩
theorem firstP_ok {R : Raw} (ok : RawOk R) {p : Pr} (h : p ∈ firstP R) : p.1 ∈ R.st ∧ p.2 ∈ R.st := by
  obtain ⟨q, hq, rfl⟩ := List.mem_map.mp (mem_dedP.mp h)
  have := firstTw_ok ok hq
  exact pairOf_mem this.2.2.2.1 this.2.2.2.2
theorem behind_ok {R : Raw} (ok : RawOk R) {p q : Pr} (h : q ∈ behind R p) : q.1 ∈ R.st ∧ q.2 ∈ R.st := by
  obtain ⟨x, hx, rfl⟩ := List.mem_map.mp (mem_dedP.mp h)
  have := nextTw_ok ok hx
  exact pairOf_mem this.1 this.2
theorem Reach.ok {R : Raw} (ok : RawOk R) {p : Pr} (h : Reach R p) : p.1 ∈ R.st ∧ p.2 ∈ R.st := by
  cases h with
  | first h => exact firstP_ok ok h
  | next _ h => exact behind_ok ok h
theorem okP_of {R : Raw} (ok : RawOk R) {p : Pr} (h : p.1 ∈ R.st ∧ p.2 ∈ R.st) : okP p := ⟨ok.ss _ h.1, ok.ss _ h.2⟩
theorem prs_len {R : Raw} (ok : RawOk R) {xs : List Pr} (hn : xs.Nodup) (h : ∀ p ∈ xs, p.1 ∈ R.st ∧ p.2 ∈ R.st) : xs.length ≤ 64 := by
  have := pairs_len hn h
  have := Nat.mul_le_mul ok.stl ok.stl
  omega
end IR
end
section
set_option Elab.async false
set_option linter.all false
set_option maxRecDepth 100000
set_option maxHeartbeats 4100000
namespace IR
open L2
open PySem (Str PyData)
abbrev Rk := List (Pr × Int)
def rkD (rk : Rk) : List (Ky × D) := rk.map fun q => (kyP q.1, .int q.2)
def rget (rk : Rk) (p : Pr) : Option Int := (rk.find? fun q => decide (q.1 = p)).map (·.2)
theorem dget_rk (rk : Rk) (p : Pr) : dget (rkD rk) (kyP p) = (rget rk p).map .int := by
  unfold dget rkD rget
  induction rk with
  | nil => rfl
  | cons r rs ih =>
    rw [List.map_cons, List.find?_cons, List.find?_cons]
    by_cases e : r.1 = p
    · simp [e]
    · have e1 : decide (r.1 = p) = false := decide_eq_false e
      have e2 : decide (kyP r.1 = kyP p) = false := decide_eq_false fun h => e (kyP_inj h)
      simp only [e1, e2]
      exact ih
theorem rget_mem {rk : Rk} {p : Pr} {r : Int} (h : rget rk p = some r) : (p, r) ∈ rk := by
  unfold rget at h
  obtain ⟨x, hx, e⟩ := Option.map_eq_some_iff.mp h
  have h1 := List.mem_of_find?_eq_some hx
  have h2 := of_decide_eq_true (List.find?_some (p := fun q : Pr × Int => decide (q.1 = p)) hx)
  obtain ⟨a, b⟩ := x
  simp at h2 e
  subst h2 e
  exact h1
theorem rget_some {rk : Rk} {p : Pr} (h : p ∈ rk.map (·.1)) : ∃ r, rget rk p = some r := by
  obtain ⟨x, hx, rfl⟩ := List.mem_map.mp h
  unfold rget
  cases e : rk.find? fun q => decide (q.1 = x.1) with
  | none =>
    have := List.find?_eq_none.mp e x hx
    simp at this
  | some y => exact ⟨_, rfl⟩
theorem rget_key {rk : Rk} {p : Pr} {r : Int} (h : rget rk p = some r) : p ∈ rk.map (·.1) := List.mem_map_of_mem (f := (·.1)) (rget_mem h)
theorem any_rk (rk : Rk) (p : Pr) : ((rkD rk).any fun q => decide (q.1 = kyP p)) = decide (p ∈ rk.map (·.1)) := by
  (rw [Bool.eq_iff_iff, List.any_eq_true, decide_eq_true_eq])
  unfold rkD
  constructor
  · rintro ⟨x, hx, e⟩
    (obtain ⟨y, hy, rfl⟩ := List.mem_map.mp hx)
    have := kyP_inj (of_decide_eq_true e)
    exact this ▸ List.mem_map_of_mem (f := (·.1)) hy
  · intro h
    obtain ⟨y, hy, rfl⟩ := List.mem_map.mp h
    exact ⟨_, List.mem_map_of_mem (f := fun q : Pr × Int => (kyP q.1, D.int q.2)) hy, decide_eq_true rfl⟩
theorem inD_rk (rk : Rk) (p : Pr) : inD (pD p) (.dct true (rkD rk)) = some (decide (p ∈ rk.map (·.1))) := by
  unfold inD
  simp only [keyOf_pD, kyKind_P, if_true, any_rk]
theorem dput_rk {rk : Rk} {p : Pr} (r : Int) (h : ¬ p ∈ rk.map (·.1)) : dput (rkD rk) (kyP p) (.int r) = rkD (rk ++ [(p, r)]) := by
  unfold dput
  rw [any_rk, decide_eq_false h]
  simp [rkD]
theorem maxL_ok (i : Int) (ns : List Int) : ∃ m, maxL (i :: ns) = some m ∧ m ∈ i :: ns ∧ ∀ x ∈ i :: ns, x ≤ m := by
  unfold maxL
  refine ⟨_, rfl, ?_⟩
  induction ns generalizing i with
  | nil => simp
  | cons n ns ih =>
    rw [List.foldl_cons]
    obtain ⟨h1, h2⟩ := ih (if n > i then n else i)
    refine ⟨?_, ?_⟩
    · rcases List.mem_cons.mp h1 with h | h
      · rw [h]
        split <;> simp
      · exact List.mem_cons_of_mem _ (List.mem_cons_of_mem _ h)
    · intro x hx
      have h3 := h2 (if n > i then n else i) (List.mem_cons_self ..)
      (rcases List.mem_cons.mp hx with rfl | hx)
      · split at h3 <;> rename_i h4 <;> simp [h4] at h3 ⊢ <;> omega
      · rcases List.mem_cons.mp hx with rfl | hx
        · split at h3 <;> rename_i h4 <;> simp [h4] at h3 ⊢ <;> omega
        · exact h2 x (List.mem_cons_of_mem _ hx)
theorem intsOf_map {α : Type} (f : α → Int) (xs : List α) : intsOf (xs.map fun x => D.int (f x)) = some (xs.map f) := by
  induction xs with
  | nil => rfl
  | cons x xs ih => rw [List.map_cons, intsOf, ih]; rfl
/-- ranks that are right -/
structure RkI (R : Raw) (rk : Rk) : Prop where
  nd : (rk.map (·.1)).Nodup
  ge : ∀ p r, (p, r) ∈ rk → 0 ≤ r
  up : ∀ p r, (p, r) ∈ rk → ∀ q ∈ behind R p, ∃ r', (q, r') ∈ rk ∧ r' + 1 ≤ r
  wit : ∀ p r, (p, r) ∈ rk → r = 0 ∨ ∃ q ∈ behind R p, (q, r - 1) ∈ rk
  re : ∀ p r, (p, r) ∈ rk → Reach R p
theorem RkI.hp {R : Raw} {rk : Rk} (I : RkI R rk) : ∀ (n : Nat) (p : Pr) (r : Int), (p, r) ∈ rk → r.toNat = n → HP R n p ∧ ¬ HP R (n + 1) p := by
  intro n
  refine Nat.strongRecOn (motive := fun n => ∀ (p : Pr) (r : Int), (p, r) ∈ rk → r.toNat = n → HP R n p ∧ ¬ HP R (n + 1) p) n ?_
  · intro n ih p r h e
    have h0 := I.ge p r h
    refine ⟨?_, ?_⟩
    · rcases I.wit p r h with rfl | ⟨q, hq, h2⟩
      · simp at e
        subst e
        trivial
      · have h3 := I.ge _ _ h2
        (obtain ⟨m, rfl⟩ : ∃ m, n = m + 1 := ⟨n - 1, by omega⟩)
        exact ⟨q, hq, (ih m (by omega) q (r - 1) h2 (by omega)).1⟩
    · rintro ⟨q, hq, h4⟩
      obtain ⟨r', h5, h6⟩ := I.up p r h q hq
      have h7 := I.ge _ _ h5
      exact (ih r'.toNat (by omega) q r' h5 rfl).2 (h4.le (by omega))
theorem RkI.add {R : Raw} {rk : Rk} (I : RkI R rk) {p : Pr} {r : Int} (hp : ¬ p ∈ rk.map (·.1)) (hr : Reach R p) (h0 : 0 ≤ r) (h1 : ∀ q ∈ behind R p, ∃ r', (q, r') ∈ rk ∧ r' + 1 ≤ r) (h2 : r = 0 ∨ ∃ q ∈ behind R p, (q, r - 1) ∈ rk) : RkI R (rk ++ [(p, r)]) := by
  have mem : ∀ a b, (a, b) ∈ rk ++ [(p, r)] → (a, b) ∈ rk ∨ (a = p ∧ b = r) := fun a b h => by
    (rcases List.mem_append.mp h with h | h)
    · exact .inl h
    · simp at h; exact .inr h
  refine ⟨?_, ?_, ?_, ?_, ?_⟩
  · (rw [List.map_append, List.nodup_append])
    refine ⟨I.nd, by simp, fun a ha b hb e => ?_⟩
    simp at hb
    exact hp (by rw [← hb, ← e]; exact ha)
  · intro a b h
    rcases mem a b h with h | ⟨rfl, rfl⟩
    · exact I.ge a b h
    · exact h0
  · intro a b h q hq
    rcases mem a b h with h | ⟨rfl, rfl⟩
    · obtain ⟨r', h3, h4⟩ := I.up a b h q hq
      exact ⟨r', List.mem_append_left _ h3, h4⟩
    · obtain ⟨r', h3, h4⟩ := h1 q hq
      exact ⟨r', List.mem_append_left _ h3, h4⟩
  · intro a b h
    rcases mem a b h with h | ⟨rfl, rfl⟩
    · rcases I.wit a b h with h | ⟨q, hq, h3⟩
      · exact .inl h
      · exact .inr ⟨q, hq, List.mem_append_left _ h3⟩
    · rcases h2 with h | ⟨q, hq, h3⟩
      · exact .inl h
      · exact .inr ⟨q, hq, List.mem_append_left _ h3⟩
  · intro a b h
    rcases mem a b h with h | ⟨rfl, rfl⟩
    · exact I.re a b h
    · exact hr
theorem RkI.nil (R : Raw) : RkI R [] := ⟨by simp, by simp, by simp, by simp, by simp⟩
theorem RkI.len {R : Raw} (ok : RawOk R) {rk : Rk} (I : RkI R rk) : rk.length ≤ 64 := by
  have := prs_len ok I.nd fun p hp => by
    obtain ⟨x, hx, rfl⟩ := List.mem_map.mp hp
    exact (I.re x.1 x.2 hx).ok ok
  simpa using this
end IR
end
section
set_option Elab.async false
set_option linter.all false
set_option maxRecDepth 100000
set_option maxHeartbeats 4100000
namespace IR
open L2
open PySem (Str PyData)
theorem nextTw_swap {R : Raw} {s u a b h t : Str} (x : (a, b, h, t) ∈ nextTw R s u) : (b, a, t, h) ∈ nextTw R u s := by
  obtain ⟨w, h1, h2, h3, h4⟩ := mem_nextTw.mp x
  exact mem_nextTw.mpr ⟨w, h2, h1, h4, h3⟩
theorem behind_pairOf {R : Raw} (ok : RawOk R) {m t : Str} (hm : m ∈ R.st) (ht : t ∈ R.st) {q : Pr} : q ∈ behind R (pairOf R m t) ↔ ∃ x ∈ nextTw R m t, q = nxP R x := by
  unfold behind
  rw [mem_dedP, List.mem_map]
  rcases pairOf_or R m t with e | e
  · rw [e]
    exact ⟨fun ⟨x, h, e⟩ => ⟨x, h, e.symm⟩, fun ⟨x, h, e⟩ => ⟨x, h, e.symm⟩⟩
  · rw [e]
    constructor
    · rintro ⟨⟨a, b, h, u⟩, hx, rfl⟩
      have h1 := nextTw_ok ok hx
      exact ⟨(b, a, u, h), nextTw_swap hx, pairOf_comm h1.1 h1.2⟩
    · rintro ⟨⟨a, b, h, u⟩, hx, rfl⟩
      have h1 := nextTw_ok ok hx
      exact ⟨(b, a, u, h), nextTw_swap hx, (pairOf_comm h1.1 h1.2).symm⟩
/-- two lists of presses that show the same words -/
def PW (R : Raw) (n : Nat) (a b : Str) (P : Str → Str → Prop) : Prop := ∃ (ps qs ws : List Str) (h u : Str), ps.length = n ∧ qs.length = n ∧ play R a ps = some (ws, h) ∧ play R b qs = some (ws, u) ∧ P h u
theorem play_cons {R : Raw} {s b : Str} {bs ws : List Str} {h : Str} : play R s (b :: bs) = some (ws, h) ↔ ∃ w t vs, look R s b = some (w, t) ∧ play R t bs = some (vs, h) ∧ ws = w :: vs := by
  rw [play]
  cases e : look R s b with
  | none => simp
  | some q =>
    obtain ⟨w, t⟩ := q
    simp only [Option.map_eq_some_iff, Option.some.injEq, Prod.mk.injEq]
    constructor
    · rintro ⟨p, h1, h2, h3⟩
      exact ⟨w, t, p.1, ⟨rfl, rfl⟩, by rw [h1, ← h3], h2.symm⟩
    · rintro ⟨w', t', vs, ⟨rfl, rfl⟩, h1, h2⟩
      exact ⟨_, h1, h2.symm, rfl⟩
theorem PW_succ {R : Raw} (ok : RawOk R) {n : Nat} {a b : Str} {P : Str → Str → Prop} : PW R (n + 1) a b P ↔ ∃ x ∈ nextTw R a b, PW R n x.2.2.1 x.2.2.2 P := by
  constructor
  · rintro ⟨ps, qs, ws, h, u, l1, l2, h1, h2, hP⟩
    cases ps with
    | nil => cases l1
    | cons p ps =>
      cases qs with
      | nil => cases l2
      | cons q qs =>
        obtain ⟨w, t, vs, e1, e2, rfl⟩ := play_cons.mp h1
        obtain ⟨w', t', vs', e3, e4, e5⟩ := play_cons.mp h2
        cases e5
        exact ⟨(p, q, t, t'), mem_nextTw.mpr ⟨w, (look_ok ok e1).2.1, (look_ok ok e3).2.1, e1, e3⟩, ps, qs, vs, h, u, by simpa using l1, by simpa using l2, e2, e4, hP⟩
  · rintro ⟨⟨p, q, t, t'⟩, hx, ps, qs, vs, h, u, l1, l2, h1, h2, hP⟩
    obtain ⟨w, _, _, e1, e2⟩ := mem_nextTw.mp hx
    exact ⟨p :: ps, q :: qs, w :: vs, h, u, by simp [l1], by simp [l2], play_cons.mpr ⟨w, t, vs, e1, h1, rfl⟩, play_cons.mpr ⟨w, t', vs, e2, h2, rfl⟩, hP⟩
theorem PW_HP {R : Raw} (ok : RawOk R) {n : Nat} {a b : Str} (ha : a ∈ R.st) (hb : b ∈ R.st) : PW R n a b (fun _ _ => True) ↔ HP R n (pairOf R a b) := by
  induction n generalizing a b with
  | zero =>
    refine ⟨fun _ => trivial, fun _ => ⟨[], [], [], a, b, rfl, rfl, rfl, rfl, trivial⟩⟩
  | succ n ih =>
    rw [PW_succ ok]
    constructor
    · rintro ⟨x, hx, h⟩
      have h1 := nextTw_ok ok hx
      exact ⟨nxP R x, (behind_pairOf ok ha hb).mpr ⟨x, hx, rfl⟩, (ih h1.1 h1.2).mp h⟩
    · rintro ⟨q, hq, h⟩
      obtain ⟨x, hx, rfl⟩ := (behind_pairOf ok ha hb).mp hq
      have h1 := nextTw_ok ok hx
      exact ⟨x, hx, (ih h1.1 h1.2).mpr h⟩
/-- two lists with unlike first buttons -/
def TF (R : Raw) (m : Nat) : Prop := ∃ s ∈ R.st, ∃ (ps qs ws : List Str) (h u : Str), ps.length = m ∧ qs.length = m ∧ play R s ps = some (ws, h) ∧ play R s qs = some (ws, u) ∧ ps.head? ≠ qs.head?
theorem there_mem {R : Raw} (ok : RawOk R) {s b w t : Str} (h : look R s b = some (w, t)) : b ∈ thereAt R s := List.mem_filter.mpr ⟨(look_ok ok h).2.1, by rw [h]; rfl⟩
theorem TF_iff {R : Raw} (ok : RawOk R) (n : Nat) : TF R (n + 1) ↔ ∃ p ∈ firstP R, HP R n p := by
  constructor
  · rintro ⟨s, hs, ps, qs, ws, h, u, l1, l2, h1, h2, hne⟩
    cases ps with
    | nil => cases l1
    | cons p ps =>
      cases qs with
      | nil => cases l2
      | cons q qs =>
        obtain ⟨w, t, vs, e1, e2, rfl⟩ := play_cons.mp h1
        obtain ⟨w', t', vs', e3, e4, e5⟩ := play_cons.mp h2
        cases e5
        have hpq : p ≠ q := fun e => hne (by rw [e]; rfl)
        have ht := (look_ok ok e1).2.2.2
        have ht' := (look_ok ok e3).2.2.2
        have hPW : PW R n t t' (fun _ _ => True) := ⟨ps, qs, vs, h, u, by simpa using l1, by simpa using l2, e2, e4, trivial⟩
        obtain ⟨i, hi⟩ := List.mem_iff_getElem?.mp (there_mem ok e1)
        obtain ⟨j, hj⟩ := List.mem_iff_getElem?.mp (there_mem ok e3)
        rcases Nat.lt_trichotomy i j with hij | hij | hij
        · exact ⟨twP R (s, p, q, t, t'), mem_dedP.mpr (List.mem_map_of_mem (firstTw_mk hs hi hj hij e1 e3)), (PW_HP ok ht ht').mp hPW⟩
        · subst hij
          rw [hi] at hj
          exact absurd (Option.some.inj hj) hpq
        · refine ⟨twP R (s, q, p, t', t), mem_dedP.mpr (List.mem_map_of_mem (firstTw_mk hs hj hi hij e3 e1)), ?_⟩
          show HP R n (pairOf R t' t)
          rw [pairOf_comm ht' ht]
          exact (PW_HP ok ht ht').mp hPW
  · rintro ⟨p, hp, h⟩
    obtain ⟨⟨s, a, b, t, u⟩, hx, rfl⟩ := List.mem_map.mp (mem_dedP.mp hp)
    obtain ⟨w, hs, e1, e2, i, j, hij, hi, hj⟩ := firstTw_of hx
    have ht := (look_ok ok e1).2.2.2
    have hu := (look_ok ok e2).2.2.2
    obtain ⟨ps, qs, vs, h1, h2, l1, l2, e3, e4, _⟩ := (PW_HP ok ht hu).mpr h
    refine ⟨s, hs, a :: ps, b :: qs, w :: vs, h1, h2, by simp [l1], by simp [l2], play_cons.mpr ⟨w, t, vs, e1, e3, rfl⟩, play_cons.mpr ⟨w, u, vs, e2, e4, rfl⟩, fun e => ?_⟩
    have e : a = b := by simpa using e
    have hnd : (thereAt R s).Nodup := List.Pairwise.filter _ ok.btn
    have hi' := (List.getElem?_eq_some_iff.mp hi)
    have hj' := (List.getElem?_eq_some_iff.mp hj)
    obtain ⟨hi1, hi2⟩ := hi'
    obtain ⟨hj1, hj2⟩ := hj'
    exact List.pairwise_iff_getElem.mp hnd i j hi1 hj1 hij (hi2.trans (e.trans hj2.symm))
/-- two unlike lists with one end -/
def TL (R : Raw) (m : Nat) : Prop := ∃ s ∈ R.st, ∃ (ps qs ws : List Str) (h : Str), ps.length = m ∧ qs.length = m ∧ play R s ps = some (ws, h) ∧ play R s qs = some (ws, h) ∧ ps ≠ qs
theorem PW_reach {R : Raw} (ok : RawOk R) {n : Nat} {a b : Str} (ha : a ∈ R.st) (hb : b ∈ R.st) (hr : Reach R (pairOf R a b)) (h : PW R n a b (fun h u => h = u)) : ∃ p, Reach R p ∧ p.1 = p.2 := by
  induction n generalizing a b with
  | zero =>
    obtain ⟨ps, qs, ws, h, u, l1, l2, h1, h2, e⟩ := h
    obtain rfl := List.length_eq_zero_iff.mp l1
    obtain rfl := List.length_eq_zero_iff.mp l2
    simp [play] at h1 h2
    obtain ⟨_, rfl⟩ := h1
    obtain ⟨_, rfl⟩ := h2
    subst e
    refine ⟨_, hr, ?_⟩
    rcases pairOf_or R a a with e | e <;> rw [e]
  | succ n ih =>
    obtain ⟨x, hx, h⟩ := (PW_succ ok).mp h
    have h1 := nextTw_ok ok hx
    exact ih h1.1 h1.2 (.next hr ((behind_pairOf ok ha hb).mpr ⟨x, hx, rfl⟩)) h
theorem TL_not {R : Raw} (ok : RawOk R) (hk : ∀ p, Reach R p → p.1 ≠ p.2) (m : Nat) : ¬ TL R m := by
  rintro ⟨s, hs, ps, qs, ws, h, l1, l2, h1, h2, hne⟩
  induction m generalizing s ps qs ws with
  | zero =>
    obtain rfl := List.length_eq_zero_iff.mp l1
    obtain rfl := List.length_eq_zero_iff.mp l2
    exact hne rfl
  | succ m ih =>
    cases ps with
    | nil => cases l1
    | cons p ps =>
      cases qs with
      | nil => cases l2
      | cons q qs =>
        obtain ⟨w, t, vs, e1, e2, rfl⟩ := play_cons.mp h1
        obtain ⟨w', t', vs', e3, e4, e5⟩ := play_cons.mp h2
        cases e5
        by_cases hpq : p = q
        · subst hpq
          rw [e1] at e3
          cases e3
          exact ih t (look_ok ok e1).2.2.2 ps qs vs (by simpa using l1) (by simpa using l2) e2 e4 fun e => hne (by rw [e])
        · have ht := (look_ok ok e1).2.2.2
          have ht' := (look_ok ok e3).2.2.2
          have hPW : PW R m t t' (fun h u => h = u) := ⟨ps, qs, vs, h, h, by simpa using l1, by simpa using l2, e2, e4, rfl⟩
          have hr : Reach R (pairOf R t t') := by
            obtain ⟨i, hi⟩ := List.mem_iff_getElem?.mp (there_mem ok e1)
            obtain ⟨j, hj⟩ := List.mem_iff_getElem?.mp (there_mem ok e3)
            rcases Nat.lt_trichotomy i j with hij | hij | hij
            · exact .first (mem_dedP.mpr (List.mem_map.mpr ⟨_, firstTw_mk hs hi hj hij e1 e3, rfl⟩))
            · subst hij
              rw [hi] at hj
              exact absurd (Option.some.inj hj) hpq
            · rw [pairOf_comm ht ht']
              exact .first (mem_dedP.mpr (List.mem_map.mpr ⟨_, firstTw_mk hs hj hi hij e3 e1, rfl⟩))
          obtain ⟨p, h3, h4⟩ := PW_reach ok ht ht' hr hPW
          exact hk p h3 h4
/-- endless: from a first pair too -/
theorem endless {R : Raw} {p : Pr} (hr : Reach R p) (h : ∀ n, HP R n p) : ∃ q ∈ firstP R, ∀ n, HP R n q := by
  induction hr with
  | first hp => exact ⟨_, hp, h⟩
  | next hp hq ih =>
    refine ih fun n => ?_
    cases n with
    | zero => trivial
    | succ n => exact ⟨_, hq, h n⟩
end IR
end
section
set_option Elab.async false
set_option linter.all false
set_option maxRecDepth 100000
set_option maxHeartbeats 4100000
namespace IR
open L2
open PySem (Str PyData)
theorem dget_dput_same (kvs : List (Ky × D)) (k : Ky) (d : D) : dget (dput kvs k d) k = some d := by
  unfold dput dget
  by_cases h : (kvs.any fun p => decide (p.1 = k)) = true
  · rw [if_pos h]
    induction kvs with
    | nil => simp at h
    | cons x xs ih =>
      rw [List.map_cons, List.find?_cons]
      by_cases e : x.1 = k
      · simp [e]
      · have e1 : decide (x.1 = k) = false := decide_eq_false e
        simp only [if_neg e, e1]
        exact ih (by simpa [List.any_cons, e1] using h)
  · rw [if_neg h, List.find?_append]
    have : (kvs.find? fun p => decide (p.1 = k)) = none := by
      rw [List.find?_eq_none]
      intro x hx hk
      exact h (List.any_eq_true.mpr ⟨x, hx, hk⟩)
    rw [this]
    simp
theorem dget_dput_ne (kvs : List (Ky × D)) {k k' : Ky} (d : D) (hk : k' ≠ k) : dget (dput kvs k d) k' = dget kvs k' := by
  unfold dput dget
  by_cases h : (kvs.any fun p => decide (p.1 = k)) = true
  · rw [if_pos h]
    clear h
    congr 1
    induction kvs with
    | nil => rfl
    | cons x xs ih =>
      rw [List.map_cons, List.find?_cons, List.find?_cons]
      by_cases e : x.1 = k
      · have e2 : decide (x.1 = k') = false := decide_eq_false fun z => hk (z.symm.trans e)
        simp only [if_pos e, e2]
        exact ih
      · simp only [if_neg e]
        cases decide (x.1 = k') with
        | true => rfl
        | false => exact ih
  · rw [if_neg h, List.find?_append]
    have e2 : decide (k = k') = false := decide_eq_false hk.symm
    cases (kvs.find? fun p => decide (p.1 = k')) with
    | some x => simp
    | none => simp [List.find?_cons, e2]
theorem dput_len (kvs : List (Ky × D)) (k : Ky) (d : D) : (dput kvs k d).length ≤ kvs.length + 1 := by
  unfold dput
  split
  · simp
  · simp
def kyW (ws : List Str) : Ky := .t (ws.map .inr)
theorem keysOf_str (ws : List Str) : keysOf (ws.map D.str) = some (ws.map Sum.inr) := by
  induction ws with
  | nil => rfl
  | cons x xs ih => rw [List.map_cons, keysOf, ih]; rfl
@[simp] theorem keyOf_strs (ws : List Str) : keyOf (.tup (ws.map .str)) = some (kyW ws) := by
  unfold keyOf
  simp [keysOf_str, kyW]
@[simp] theorem kyKind_W (ws : List Str) : kyKind (kyW ws) = true := rfl
theorem kyW_inj {ws vs : List Str} (h : kyW ws = kyW vs) : ws = vs := by
  unfold kyW at h
  simp at h
  induction ws generalizing vs with
  | nil => cases vs with
    | nil => rfl
    | cons v vs => simp at h
  | cons w ws ih =>
    cases vs with
    | nil => simp at h
    | cons v vs =>
      simp at h
      rw [h.1, ih h.2]

/-! ## all lists of presses -/
abbrev Tr := List Str × List Str × Str
def trD (t : Tr) : D := .tup [.lst (t.1.map .str), .lst (t.2.1.map .str), .str t.2.2]
def ap1 (t : Tr) (r : Row) : List Tr := if r.1 = t.2.2 then [(t.1 ++ [r.2.1], t.2.1 ++ [r.2.2.1], r.2.2.2)] else []
def apS (R : Raw) (t : Tr) : List Tr := R.rw.flatMap (ap1 t)
def AP (R : Raw) (one : Str) : Nat → List Tr
  | 0 => [([], [], one)]
  | m + 1 => (AP R one m).flatMap (apS R)
theorem mem_apS {R : Raw} (ok : RawOk R) {t u : Tr} : u ∈ apS R t ↔ ∃ b w h, look R t.2.2 b = some (w, h) ∧ u = (t.1 ++ [b], t.2.1 ++ [w], h) := by
  unfold apS ap1
  rw [List.mem_flatMap]
  constructor
  · rintro ⟨r, hr, h⟩
    by_cases e : r.1 = t.2.2
    · rw [if_pos e, List.mem_singleton] at h
      exact ⟨r.2.1, r.2.2.1, r.2.2.2, by rw [← e]; exact look_mem ok hr, h⟩
    · rw [if_neg e] at h
      cases h
  · rintro ⟨b, w, h, e, rfl⟩
    exact ⟨_, look_some e, by simp⟩
theorem mem_AP {R : Raw} (ok : RawOk R) {one : Str} : ∀ {m : Nat} {t : Tr}, t ∈ AP R one m ↔ t.1.length = m ∧ play R one t.1 = some t.2 := by
  intro m
  induction m with
  | zero =>
    rintro ⟨ps, ws, h⟩
    simp only [AP, List.mem_singleton, Prod.mk.injEq, List.length_eq_zero_iff]
    constructor
    · rintro ⟨rfl, rfl, rfl⟩
      exact ⟨rfl, rfl⟩
    · rintro ⟨rfl, h⟩
      simp [play] at h
      exact ⟨rfl, h.1, h.2.symm⟩
  | succ m ih =>
    intro t
    rw [AP, List.mem_flatMap]
    constructor
    · rintro ⟨u, hu, ht⟩
      obtain ⟨b, w, h, e, rfl⟩ := (mem_apS ok).mp ht
      obtain ⟨h1, h2⟩ := ih.mp hu
      refine ⟨by simp [h1], ?_⟩
      dsimp only
      rw [play_one, h2]
      simp [e]
    · rintro ⟨h1, h2⟩
      obtain ⟨ps, ws, h⟩ := t
      dsimp only at h1 h2
      rcases List.eq_nil_or_concat ps with rfl | ⟨qs, b, rfl⟩
      · cases h1
      · rw [List.concat_eq_append] at h1 h2
        rw [play_one] at h2
        cases e : play R one qs with
        | none => (rw [e] at h2; cases h2)
        | some q =>
          rw [e] at h2
          simp only [Option.bind_some, Option.map_eq_some_iff] at h2
          obtain ⟨p, e2, e3⟩ := h2
          obtain ⟨w, h'⟩ := p
          simp at e3
          obtain ⟨rfl, rfl⟩ := e3
          refine ⟨(qs, q), ih.mpr ⟨by simpa using h1, e⟩, (mem_apS ok).mpr ⟨b, w, h', e2, ?_⟩⟩
          simp
theorem ap1_len (t : Tr) (r : Row) : (ap1 t r).length ≤ 1 := by
  unfold ap1
  split <;> simp
theorem apS_len {R : Raw} (ok : RawOk R) (t : Tr) : (apS R t).length ≤ 8 := by
  have e : (apS R t).length = (R.rw.filter fun r => decide (r.1 = t.2.2)).length := by
    unfold apS ap1
    induction R.rw with
    | nil => rfl
    | cons r rs ih =>
      rw [List.flatMap_cons, List.length_append, ih, List.filter_cons]
      by_cases h : r.1 = t.2.2
      · simp [h]
        omega
      · simp [h]
  rw [e]
  have h1 : ((R.rw.filter fun r => decide (r.1 = t.2.2)).map fun r => r.2.1).Nodup := by
    have key := ok.key
    generalize R.rw = l at key
    induction l with
    | nil => simp
    | cons r rs ih =>
      rw [List.map_cons, List.nodup_cons] at key
      rw [List.filter_cons]
      by_cases h : r.1 = t.2.2
      · simp only [h, decide_true, if_true, List.map_cons, List.nodup_cons]
        refine ⟨fun hm => ?_, ih key.2⟩
        obtain ⟨q, hq, e⟩ := List.mem_map.mp hm
        obtain ⟨h2, h3⟩ := List.mem_filter.mp hq
        refine key.1 (List.mem_map.mpr ⟨q, h2, ?_⟩)
        unfold rkey
        rw [of_decide_eq_true h3, e, h]
      · simp only [h, decide_false, Bool.false_eq_true, if_false]
        exact ih key.2
  have h2 := nodup_len h1 (ys := R.bt) fun b hb => by
    (obtain ⟨q, hq, rfl⟩ := List.mem_map.mp hb)
    exact (ok.rws q (List.mem_filter.mp hq).1).2.1
  rw [List.length_map] at h2
  have := ok.btl
  omega
theorem AP_len {R : Raw} (ok : RawOk R) (one : Str) (m : Nat) : (AP R one m).length ≤ 8 ^ m := by
  induction m with
  | zero => simp [AP]
  | succ m ih =>
    rw [AP, Nat.pow_succ]
    exact Nat.le_trans (flatMap_len fun t _ => apS_len ok t) (Nat.mul_le_mul ih (Nat.le_refl 8))
theorem AP_lens {R : Raw} (ok : RawOk R) {one : Str} {m : Nat} {t : Tr} (h : t ∈ AP R one m) : t.1.length = m ∧ t.2.1.length = m := by
  obtain ⟨h1, h2⟩ := (mem_AP ok).mp h
  exact ⟨h1, (play_len h2).trans h1⟩
end IR
end
section
set_option Elab.async false
set_option linter.all false
set_option maxRecDepth 100000
set_option maxHeartbeats 4100000
namespace IR
open L2
open PySem (Str PyData)
theorem itM_r1 {Γ : Gm} {cf : Nat → List D → DS → Out D} {e : E} {ρ : Env} {s s' : DS} {n : Nat} (h : ev Γ cf e ρ s = .ok (.int (n : Int)) s') (hn : n < 16777216) : itM Γ cf (.r1 e) ρ s = .ok (rangeD 0 n) s' := by
  have h1 : -(2 ^ 62) ≤ (n : Int) := by omega
  have h2 : (n : Int) < (lim : Nat) := Int.ofNat_lt.mpr (lt_lim hn)
  rw [itM, h, bind_ok]
  dsimp only
  rw [if_pos ⟨h1, h2⟩]
  rfl
theorem itM_r2 {Γ : Gm} {cf : Nat → List D → DS → Out D} {e e2 : E} {ρ : Env} {s s' s2 : DS} {m n : Nat} (h : ev Γ cf e ρ s = .ok (.int (m : Int)) s') (h' : ev Γ cf e2 ρ s' = .ok (.int (n : Int)) s2) (hm : m < 16777216) (hn : n < 16777216) : itM Γ cf (.r2 e e2) ρ s = .ok (rangeD m (n - m)) s2 := by
  have h1 : -(2 ^ 62) ≤ (m : Int) := by omega
  have h2 : (m : Int) < 2 ^ 62 := by omega
  have h3 : -(2 ^ 62) ≤ (n : Int) := by omega
  have h4 : (n : Int) < 2 ^ 62 := by omega
  have h5 : (n : Int) - (m : Int) < (lim : Nat) := by
    have : (n : Int) < (lim : Nat) := Int.ofNat_lt.mpr (lt_lim hn)
    omega
  rw [itM, h, bind_ok, h', bind_ok]
  dsimp only
  rw [if_pos ⟨h1, h2, h3, h4, h5⟩]
  congr 2
  omega
theorem ev_lrng {Γ : Gm} {cf : Nat → List D → DS → Out D} {e : E} {ρ : Env} {s s' : DS} {n : Nat} (h : ev Γ cf e ρ s = .ok (.int (n : Int)) s') (hn : n ≤ 16777216) : ev Γ cf (.lrng e) ρ s = .ok (.lst (rangeD 0 n)) s' := by
  have h1 : -(2 ^ 62) ≤ (n : Int) := by omega
  have h2 : (n : Int) ≤ (lim : Nat) := Int.ofNat_le.mpr (le_lim hn)
  rw [ev, h, bind_ok]
  dsimp only
  rw [if_pos ⟨h2, h1⟩]
  rfl
end IR
end
section
set_option Elab.async false
set_option linter.all false
set_option maxRecDepth 100000
set_option maxHeartbeats 4100000
namespace IR
open L2
open PySem (Str PyData)
theorem subD_str {z : Str} {n : Nat} (hl : z.length ≤ lim) (h : n < z.cps.toList.length) : subD (.str z) (.int (n : Int)) = some (.str ⟨#[z.cps.toList[n]]⟩) := by
  unfold subD
  simp only
  rw [if_pos hl, atI_nat (List.getElem?_eq_getElem h)]
  rfl
/-- letters, at most n -/
def okL (n : Nat) (x : Str) : Prop := 0 < x.length ∧ x.length ≤ n ∧ ∀ c ∈ x.cps.toList, 97 ≤ c ∧ c ≤ 122
theorem okL.w {n : Nat} {x : Str} (h : okL n x) (hn : n ≤ 8) : okW x := ⟨h.1, Nat.le_trans h.2.1 hn, h.2.2⟩
theorem app_len (x y : Str) : (x ++ y).length = x.length + y.length := by
  show (x.cps ++ y.cps).size = _
  simp [PySem.Str.length]
theorem app_cps (x y : Str) : (x ++ y).cps.toList = x.cps.toList ++ y.cps.toList := by
  show (x.cps ++ y.cps).toList = _
  simp
theorem okL_one {c : Nat} (h : 97 ≤ c ∧ c ≤ 122) : okL 1 ⟨#[c]⟩ := ⟨by simp [PySem.Str.length], by simp [PySem.Str.length], fun d hd => by
  have : d = c := by simpa using hd
  rw [this]; exact h⟩
theorem okL.app {n m : Nat} {x y : Str} (h : okL n x) (h2 : okL m y) : okL (n + m) (x ++ y) := by
  refine ⟨by rw [app_len]; have := h.1; omega, by rw [app_len]; have := h.2.1; have := h2.2.1; omega, fun c hc => ?_⟩
  rw [app_cps] at hc
  (rcases List.mem_append.mp hc with hc | hc)
  · exact h.2.2 c hc
  · exact h2.2.2 c hc
/-- one sign of a written text of letters -/
theorem sign {z : Str} (hz : z.length ≤ 100) (hc : ∀ c ∈ z.cps.toList, 97 ≤ c ∧ c ≤ 122) {i : Int} (h0 : 0 ≤ i) (h1 : i < z.length) : ∃ x : Str, subD (.str z) (.int i) = some (.str x) ∧ okL 1 x ∧ x.length = 1 := by
  obtain ⟨n, rfl⟩ : ∃ n : Nat, i = n := ⟨i.toNat, by omega⟩
  have hn : n < z.cps.toList.length := by
    have : z.cps.toList.length = z.length := by simp [PySem.Str.length]
    omega
  exact ⟨_, subD_str (le_lim (by omega)) hn, okL_one (hc _ (List.getElem_mem hn)), by simp [PySem.Str.length]⟩
theorem z_ab : (("ab" : Str)).cps.toList = [97, 98] := by decide +kernel
theorem z_abc : (("abc" : Str)).cps.toList = [97, 98, 99] := by decide +kernel
theorem z_az : (("abcdefghijklmnopqrstuvwxyz" : Str)).cps.toList = (List.range 26).map (97 + ·) := by decide +kernel
theorem z_aj : (("abcdefghij" : Str)).cps.toList = (List.range 10).map (97 + ·) := by decide +kernel
theorem z_q : (("qxyz" : Str)).cps.toList = [113, 120, 121, 122] := by decide +kernel
theorem l_ab : (("ab" : Str)).length = 2 := by decide +kernel
theorem l_abc : (("abc" : Str)).length = 3 := by decide +kernel
theorem l_az : (("abcdefghijklmnopqrstuvwxyz" : Str)).length = 26 := by decide +kernel
theorem l_aj : (("abcdefghij" : Str)).length = 10 := by decide +kernel
theorem l_q : (("qxyz" : Str)).length = 4 := by decide +kernel
theorem sign_ab {i : Int} (h0 : 0 ≤ i) (h1 : i < 2) : ∃ x : Str, subD (.str ("ab" : Str)) (.int i) = some (.str x) ∧ okL 1 x ∧ x.length = 1 :=
  sign (by rw [l_ab]; omega) (by rw [z_ab]; decide) h0 (by rw [l_ab]; exact h1)
theorem sign_abc {i : Int} (h0 : 0 ≤ i) (h1 : i < 3) : ∃ x : Str, subD (.str ("abc" : Str)) (.int i) = some (.str x) ∧ okL 1 x ∧ x.length = 1 :=
  sign (by rw [l_abc]; omega) (by rw [z_abc]; decide) h0 (by rw [l_abc]; exact h1)
theorem sign_az {i : Int} (h0 : 0 ≤ i) (h1 : i < 26) : ∃ x : Str, subD (.str ("abcdefghijklmnopqrstuvwxyz" : Str)) (.int i) = some (.str x) ∧ okL 1 x ∧ x.length = 1 :=
  sign (by rw [l_az]; omega) (by rw [z_az]; decide) h0 (by rw [l_az]; exact h1)
/-- the words taken where one is taken -/
def cand (k : Nat) : Str := ⟨#[[113, 120, 121, 122].getD (k % 4) 113, 97 + k / 4 % 26, 97 + k / 104]⟩
theorem cand_q (k : Nat) : subD (.str ("qxyz" : Str)) (.int ((k % 4 : Nat) : Int)) = some (.str ⟨#[[113, 120, 121, 122].getD (k % 4) 113]⟩) := by
  have h : k % 4 < (("qxyz" : Str)).cps.toList.length := by rw [z_q]; exact Nat.mod_lt _ (by decide)
  rw [subD_str (le_lim (by rw [l_q]; omega)) h]
  congr 4
  simp only [z_q]
  rw [List.getD_eq_getElem?_getD, List.getElem?_eq_getElem (by exact Nat.mod_lt _ (by decide))]
  rfl
theorem cand_az (k : Nat) : subD (.str ("abcdefghijklmnopqrstuvwxyz" : Str)) (.int ((k / 4 % 26 : Nat) : Int)) = some (.str ⟨#[97 + k / 4 % 26]⟩) := by
  have h : k / 4 % 26 < (("abcdefghijklmnopqrstuvwxyz" : Str)).cps.toList.length := by rw [z_az]; simpa using Nat.mod_lt _ (by decide)
  rw [subD_str (le_lim (by rw [l_az]; omega)) h]
  congr 4
  simp only [z_az]
  simp
theorem cand_aj {k : Nat} (hk : k < 600) : subD (.str ("abcdefghij" : Str)) (.int ((k / 104 : Nat) : Int)) = some (.str ⟨#[97 + k / 104]⟩) := by
  have h : k / 104 < (("abcdefghij" : Str)).cps.toList.length := by rw [z_aj]; simp; omega
  rw [subD_str (le_lim (by rw [l_aj]; omega)) h]
  congr 4
  simp only [z_aj]
  simp
theorem cand_app (k : Nat) : ((⟨#[[113, 120, 121, 122].getD (k % 4) 113]⟩ : Str) ++ (⟨#[97 + k / 4 % 26]⟩ : Str)) ++ (⟨#[97 + k / 104]⟩ : Str) = cand k := rfl
theorem cand_w {k : Nat} (hk : k < 600) : okW (cand k) := by
  refine ⟨by simp [cand, PySem.Str.length], by simp [cand, PySem.Str.length], fun c hc => ?_⟩
  have hc : c = [113, 120, 121, 122].getD (k % 4) 113 ∨ c = 97 + k / 4 % 26 ∨ c = 97 + k / 104 := by simpa [cand] using hc
  have h4 : k % 4 < 4 := Nat.mod_lt _ (by decide)
  have h26 : k / 4 % 26 < 26 := Nat.mod_lt _ (by decide)
  rcases hc with rfl | rfl | rfl
  · generalize k % 4 = j at h4
    match j, h4 with
    | 0, _ => decide
    | 1, _ => decide
    | 2, _ => decide
    | 3, _ => decide
  · omega
  · omega
theorem cand_nd : ((List.range 100).map cand).Nodup := by decide +kernel
theorem cand_out {taken : List Str} (hl : taken.length ≤ 90) (h : ∀ j, j < 100 → cand j ∈ taken) : False := by
  have := nodup_len cand_nd (ys := taken) fun x hx => by
    obtain ⟨j, hj, rfl⟩ := List.mem_map.mp hx
    exact h j (List.mem_range.mp hj)
  simp at this
  omega
end IR
end
section
set_option Elab.async false
set_option linter.all false
set_option maxRecDepth 100000
set_option maxHeartbeats 4100000
namespace IR
open L2
open PySem (Str PyData)
theorem list_enc {α : Type} {enc : α → D} {P : α → Prop} {es : List D} (h : ∀ d ∈ es, ∃ x, d = enc x ∧ P x) : ∃ xs : List α, es = xs.map enc ∧ ∀ x ∈ xs, P x := by
  induction es with
  | nil => exact ⟨[], rfl, fun x hx => (nomatch hx)⟩
  | cons e es ih =>
    obtain ⟨x, rfl, hx⟩ := h e (List.mem_cons_self ..)
    obtain ⟨xs, rfl, hxs⟩ := ih fun d hd => h d (List.mem_cons_of_mem _ hd)
    refine ⟨x :: xs, rfl, fun y hy => ?_⟩
    (rcases List.mem_cons.mp hy with rfl | hy)
    · exact hx
    · exact hxs y hy
theorem ev_lc {Γ : Gm} {cf : Nat → List D → DS → Out D} {own : List Nat} {elt : E} {p : Pt} {it : It} {ρ : Env} {s s1 s2 : DS} {ds xs : List D} (h : itM Γ cf it ρ s = .ok ds s1) (hl : ds.length ≤ lim)
    (h2 : lcM p (wipeE ρ own) (fun _ s => .ok (.bl true) s) (fun ρ s => ev Γ cf elt ρ s) ds s1 = .ok xs s2) : ev Γ cf (.lc own elt p it .nop) ρ s = .ok (.lst xs) s2 := by
  rw [ev, h, bind_ok, if_pos hl]
  simp only [isNop_nop, if_true]
  rw [h2]
  rfl
theorem ev_lcc {Γ : Gm} {cf : Nat → List D → DS → Out D} {own : List Nat} {elt cnd : E} {p : Pt} {it : It} {ρ : Env} {s s1 s2 : DS} {ds xs : List D} (hc : cnd.isNop = false) (h : itM Γ cf it ρ s = .ok ds s1) (hl : ds.length ≤ lim)
    (h2 : lcM p (wipeE ρ own) (fun ρ s => ev Γ cf cnd ρ s) (fun ρ s => ev Γ cf elt ρ s) ds s1 = .ok xs s2) : ev Γ cf (.lc own elt p it cnd) ρ s = .ok (.lst xs) s2 := by
  rw [ev, h, bind_ok, if_pos hl]
  simp only [hc, Bool.false_eq_true, if_false]
  rw [h2]
  rfl
abbrev nI (n : Nat) : D := .int (n : Int)
theorem rangeD_eq (n : Nat) : rangeD 0 n = (List.range n).map nI := by
  unfold rangeD nI
  (refine List.map_congr_left fun i _ => ?_)
  congr 1
  omega
@[simp] theorem rangeD_len (m : Int) (n : Nat) : (rangeD m n).length = n := by simp [rangeD]

/-! ## rows in order -/
def srt1 (R : Raw) (s b : Str) : List Row := R.rw.filter fun r => decide (r.1 = s) && decide (r.2.1 = b)
def srt2 (R : Raw) (s : Str) : List Row := R.bt.flatMap (srt1 R s)
def srt (R : Raw) : List Row := R.st.flatMap (srt2 R)
theorem nodup_tag {α β γ : Type} {f : α → List β} {key : β → γ} {tag : γ → α} {xs : List α} (hn : xs.Nodup) (h1 : ∀ x ∈ xs, ((f x).map key).Nodup) (h2 : ∀ x, ∀ y ∈ f x, tag (key y) = x) : ((xs.flatMap f).map key).Nodup := by
  induction xs with
  | nil => simp
  | cons x xs ih =>
    rw [List.nodup_cons] at hn
    rw [List.flatMap_cons, List.map_append, List.nodup_append]
    refine ⟨h1 x (List.mem_cons_self ..), ih hn.2 fun y hy => h1 y (List.mem_cons_of_mem _ hy), fun a ha b hb e => ?_⟩
    obtain ⟨u, hu, rfl⟩ := List.mem_map.mp ha
    obtain ⟨v, hv, rfl⟩ := List.mem_map.mp hb
    obtain ⟨y, hy, hv⟩ := List.mem_flatMap.mp hv
    have e1 := h2 x u hu
    have e2 := h2 y v hv
    rw [e] at e1
    exact hn.1 (by rw [← e1, e2]; exact hy)
theorem mem_srt {R : Raw} {r : Row} (h : r ∈ srt R) : r ∈ R.rw := by
  unfold srt srt2 srt1 at h
  simp only [List.mem_flatMap, List.mem_filter] at h
  obtain ⟨_, _, _, _, h, _⟩ := h
  exact h
theorem srt_nd {R : Raw} (h1 : R.st.Nodup) (h2 : R.bt.Nodup) (hk : (R.rw.map rkey).Nodup) : ((srt R).map rkey).Nodup := by
  unfold srt
  refine nodup_tag (tag := fun q => q.1) h1 (fun s _ => ?_) fun s r hr => ?_
  · unfold srt2
    refine nodup_tag (tag := fun q => q.2) h2 (fun b _ => ?_) fun b r hr => ?_
    · unfold srt1
      exact List.Nodup.sublist (List.Sublist.map _ List.filter_sublist) hk
    · unfold srt1 at hr
      have := (List.mem_filter.mp hr).2
      simp at this
      exact this.2
  · unfold srt2 srt1 at hr
    obtain ⟨b, _, hr⟩ := List.mem_flatMap.mp hr
    have := (List.mem_filter.mp hr).2
    simp at this
    exact this.1
theorem srt_ok {R : Raw} (ok : RawOk R) : RawOk { R with rw := srt R } := { ok with
  rws := fun r hr => ok.rws r (mem_srt hr)
  key := srt_nd ok.stn ok.btn ok.key }
theorem srt1_len {R : Raw} (ok : RawOk R) (s b : Str) : (srt1 R s b).length ≤ 64 := Nat.le_trans (List.length_filter_le _ _) ok.rwl
theorem srt2_len {R : Raw} (ok : RawOk R) (s : Str) : (srt2 R s).length ≤ 512 := by
  have h1 := flatMap_len (xs := R.bt) (f := srt1 R s) (c := 64) fun x _ => srt1_len ok s x
  have := ok.btl
  unfold srt2
  omega
end IR
namespace IR
open L2
open PySem (Str PyData)
section
variable {Γ : Gm} {cf : Nat → List D → DS → Out D} {fr : Bool} {W : Nat} {ρ ρ1 : Env} {s s1 : DS} {d : D} {a b : S} {e t : E}
theorem x_seq {fl : Fl} {s2 : DS} (h : exec Γ cf fr W a ρ s = .ok (.nx ρ1) s1) (h2 : exec Γ cf fr W b ρ1 s1 = .ok fl s2) : exec Γ cf fr W (.seq a b) ρ s = .ok fl s2 := by
  rw [exec, h, bind_ok]; exact h2
theorem x_rt (h : exec Γ cf fr W a ρ s = .ok (.rt d) s1) : exec Γ cf fr W (.seq a b) ρ s = .ok (.rt d) s1 := by
  rw [exec, h, bind_ok]
theorem x_ift {fl : Fl} {s2 : DS} (h : ev Γ cf t ρ s = .ok (.bl true) s1) (h2 : exec Γ cf fr W a ρ s1 = .ok fl s2) : exec Γ cf fr W (.if_ t a b) ρ s = .ok fl s2 := by
  rw [exec, h, bind_ok, onB_bl, if_pos rfl]; exact h2
theorem x_iff {fl : Fl} {s2 : DS} (h : ev Γ cf t ρ s = .ok (.bl false) s1) (h2 : exec Γ cf fr W b ρ s1 = .ok fl s2) : exec Γ cf fr W (.if_ t a b) ρ s = .ok fl s2 := by
  rw [exec, h, bind_ok, onB_bl, if_neg Bool.false_ne_true]; exact h2
theorem x_skip : exec Γ cf fr W .skip ρ s = .ok (.nx ρ) s := by rw [exec]
theorem x_asg {i : Nat} (h : ev Γ cf e ρ s = .ok d s1) (hx : ρ.set i (mkSlot (mdOf Γ e) d) = ρ1) : exec Γ cf fr W (.asg i e) ρ s = .ok (.nx ρ1) s1 := by
  rw [exec, h, bind_ok, hx]
theorem x_ret (h : ev Γ cf e ρ s = .ok d s1) (hx : retOk Γ fr e d ρ = true) : exec Γ cf fr W (.ret e) ρ s = .ok (.rt d) s1 := by
  rw [exec, h, bind_ok, if_pos hx]
theorem x_frz {is : List Nat} (h : frzE ρ is = ρ1) : exec Γ cf fr W (.frz is) ρ s = .ok (.nx ρ1) s := by rw [exec, h]
theorem x_for {p : Pt} {it : It} {ds : List D} {fl : Fl} {s2 : DS} (h : itM Γ cf it ρ s = .ok ds s1) (h2 : forM (fun ρ s => exec Γ cf fr W b ρ s) p ds ρ s1 = .ok fl s2) : exec Γ cf fr W (.for_ p it b) ρ s = .ok fl s2 := by
  rw [exec, h, bind_ok]; exact h2
theorem x_par {is : List Nat} {es : Es} {xs : List Slot} (h : evp Γ cf es ρ s = .ok xs s1) (h2 : setL is xs ρ = some ρ1) : exec Γ cf fr W (.par is es) ρ s = .ok (.nx ρ1) s1 := by
  rw [exec, h, bind_ok, h2]
theorem x_app {i : Nat} {ds : List D} (h0 : ρ[i]? = some (.own (.lst ds))) (h : ev Γ cf e ρ s = .ok d s1) (hl : ds.length < lim) (h2 : ρ.set i (.own (.lst (ds ++ [d]))) = ρ1) : exec Γ cf fr W (.app i e) ρ s = .ok (.nx ρ1) s1 := by
  rw [exec, h0]
  dsimp only
  rw [h, bind_ok, if_pos hl, h2]
theorem x_setl {i j n : Nat} {ds : List D} {k : E} {s2 : DS} (h : ev Γ cf e ρ s = .ok d s1) (h0 : ρ[i]? = some (.own (.lst ds))) (hk : ev Γ cf k ρ s1 = .ok (.int (j : Int)) s2) (hj : j < ds.length) (h2 : ρ.set i (.own (.lst (ds.set j d))) = ρ1) : exec Γ cf fr W (.seti i k e) ρ s = .ok (.nx ρ1) s2 := by
  have hx : ixN ds.length (j : Int) = some j := by
    unfold ixN
    (rw [if_pos (by omega), if_pos (by omega)])
    simp
  rw [exec, h, bind_ok, h0]
  dsimp only
  rw [hk, bind_ok]
  dsimp only
  rw [hx, ← h2]
end
end IR
namespace IR
section
variable {Γ : Gm} {cf : Nat → List D → DS → Out D} {ρ : Env} {s s1 : DS} {a b t : E}
theorem ev_ife_t (h : ev Γ cf t ρ s = .ok (.bl true) s1) : ev Γ cf (.ife t a b) ρ s = ev Γ cf a ρ s1 := by
  rw [ev, h, bind_ok, onB_bl, if_pos rfl]
theorem ev_ife_f (h : ev Γ cf t ρ s = .ok (.bl false) s1) : ev Γ cf (.ife t a b) ρ s = ev Γ cf b ρ s1 := by
  rw [ev, h, bind_ok, onB_bl, if_neg Bool.false_ne_true]
end
end IR
end
section
set_option Elab.async false
set_option linter.all false
set_option maxRecDepth 100000
set_option maxHeartbeats 4100000
namespace K94
open L2 IR PySem
/-- the small table's part of a table -/
structure Sm (Γ1 : Gm) (tb1 : Nat → Fn) : Prop where
  fl : Γ1.fl = Γ.fl
  fr : Γ1.fr = Γ.fr
  cls : Γ1.cls = Γ.cls
  t0 : tb1 0 = tb 0
  t1 : tb1 1 = tb 1
  t2 : tb1 2 = tb 2
  t3 : tb1 3 = tb 3
  t4 : tb1 4 = tb 4
  t11 : tb1 11 = tb 11
  t12 : tb1 12 = tb 12
  t13 : tb1 13 = tb 13
  t14 : tb1 14 = tb 14
theorem sm : Sm Γ tb := ⟨rfl, rfl, rfl, rfl, rfl, rfl, rfl, rfl, rfl, rfl, rfl, rfl⟩
theorem sm0 : Sm Γ0 tb0 := ⟨rfl, rfl, rfl, rfl, rfl, rfl, rfl, rfl, rfl, rfl, rfl, rfl⟩
section
variable {k : Nat} {s : DS}
theorem run0 {Γ1 : Gm} {tb1 : Nat → Fn} (S : Sm Γ1 tb1) (hk : 0 < k) (x0 : D) : callM Γ1 tb1 k 0 [x0] s = (exec Γ1 (callM Γ1 tb1 (k - 1)) false fuelW f0 [.sh x0] s).bind endO := by
  rw [callM_ir (S.t0.trans rfl) hk]; exact runF_eq rfl
theorem run1 {Γ1 : Gm} {tb1 : Nat → Fn} (S : Sm Γ1 tb1) (hk : 0 < k) (x0 x1 : D) : callM Γ1 tb1 k 1 [x0, x1] s = (exec Γ1 (callM Γ1 tb1 (k - 1)) false fuelW f1 [.sh x0, .sh x1] s).bind endO := by
  rw [callM_ir (S.t1.trans rfl) hk]; exact runF_eq rfl
theorem run2 {Γ1 : Gm} {tb1 : Nat → Fn} (S : Sm Γ1 tb1) (hk : 0 < k) (x0 : D) : callM Γ1 tb1 k 2 [x0] s = (exec Γ1 (callM Γ1 tb1 (k - 1)) false fuelW f2 [.sh x0] s).bind endO := by
  rw [callM_ir (S.t2.trans rfl) hk]; exact runF_eq rfl
theorem run3 {Γ1 : Gm} {tb1 : Nat → Fn} (S : Sm Γ1 tb1) (hk : 0 < k) (x0 : D) : callM Γ1 tb1 k 3 [x0] s = (exec Γ1 (callM Γ1 tb1 (k - 1)) false fuelW f3 [.sh x0, .no] s).bind endO := by
  rw [callM_ir (S.t3.trans rfl) hk]; exact runF_eq rfl
theorem run4 {Γ1 : Gm} {tb1 : Nat → Fn} (S : Sm Γ1 tb1) (hk : 0 < k) (x0 : D) : callM Γ1 tb1 k 4 [x0] s = (exec Γ1 (callM Γ1 tb1 (k - 1)) false fuelW f4 [.sh x0] s).bind endO := by
  rw [callM_ir (S.t4.trans rfl) hk]; exact runF_eq rfl
theorem run11 {Γ1 : Gm} {tb1 : Nat → Fn} (S : Sm Γ1 tb1) (hk : 0 < k) (x0 : D) : callM Γ1 tb1 k 11 [x0] s = (exec Γ1 (callM Γ1 tb1 (k - 1)) false fuelW f11 [.sh x0, .no, .no] s).bind endO := by
  rw [callM_ir (S.t11.trans rfl) hk]; exact runF_eq rfl
theorem run12 {Γ1 : Gm} {tb1 : Nat → Fn} (S : Sm Γ1 tb1) (hk : 0 < k) (x0 x1 : D) : callM Γ1 tb1 k 12 [x0, x1] s = (exec Γ1 (callM Γ1 tb1 (k - 1)) false fuelW f12 [.sh x0, .sh x1] s).bind endO := by
  rw [callM_ir (S.t12.trans rfl) hk]; exact runF_eq rfl
theorem run13 {Γ1 : Gm} {tb1 : Nat → Fn} (S : Sm Γ1 tb1) (hk : 0 < k) (x0 x1 x2 : D) : callM Γ1 tb1 k 13 [x0, x1, x2] s = (exec Γ1 (callM Γ1 tb1 (k - 1)) false fuelW f13 [.sh x0, .sh x1, .sh x2] s).bind endO := by
  rw [callM_ir (S.t13.trans rfl) hk]; exact runF_eq rfl
theorem run14 {Γ1 : Gm} {tb1 : Nat → Fn} (S : Sm Γ1 tb1) (hk : 0 < k) (x0 x1 x2 : D) : callM Γ1 tb1 k 14 [x0, x1, x2] s = (exec Γ1 (callM Γ1 tb1 (k - 1)) false fuelW f14 [.sh x0, .sh x1, .sh x2, .no, .no, .no] s).bind endO := by
  rw [callM_ir (S.t14.trans rfl) hk]; exact runF_eq rfl
theorem run16 (hk : 0 < k) (x0 : D) : callM Γ tb k 16 [x0] s = (exec Γ (callM Γ tb (k - 1)) true fuelW f16 [.sh x0] s).bind endO := by
  rw [callM_ir (tb := tb) rfl hk]; exact runF_eq rfl
theorem run17 (hk : 0 < k) (x0 : D) : callM Γ tb k 17 [x0] s = (exec Γ (callM Γ tb (k - 1)) true fuelW f17 [.sh x0] s).bind endO := by
  rw [callM_ir (tb := tb) rfl hk]; exact runF_eq rfl
theorem run18 (hk : 0 < k) (x0 x1 x2 : D) : callM Γ tb k 18 [x0, x1, x2] s = (exec Γ (callM Γ tb (k - 1)) false fuelW f18 [.sh x0, .sh x1, .sh x2] s).bind endO := by
  rw [callM_ir (tb := tb) rfl hk]; exact runF_eq rfl
theorem run19 (hk : 0 < k) (x0 : D) : callM Γ tb k 19 [x0] s = (exec Γ (callM Γ tb (k - 1)) true fuelW f19 [.sh x0, .no, .no, .no, .no, .no] s).bind endO := by
  rw [callM_ir (tb := tb) rfl hk]; exact runF_eq rfl
theorem run20 (hk : 0 < k) (x0 x1 : D) : callM Γ tb k 20 [x0, x1] s = (exec Γ (callM Γ tb (k - 1)) false fuelW f20 [.sh x0, .sh x1] s).bind endO := by
  rw [callM_ir (tb := tb) rfl hk]; exact runF_eq rfl
theorem run21 (hk : 0 < k) (x0 : D) : callM Γ tb k 21 [x0] s = (exec Γ (callM Γ tb (k - 1)) false fuelW f21 [.sh x0] s).bind endO := by
  rw [callM_ir (tb := tb) rfl hk]; exact runF_eq rfl
theorem run22 (hk : 0 < k) (x0 x1 : D) : callM Γ tb k 22 [x0, x1] s = (exec Γ (callM Γ tb (k - 1)) false fuelW f22 [.sh x0, .sh x1] s).bind endO := by
  rw [callM_ir (tb := tb) rfl hk]; exact runF_eq rfl
theorem run23 (hk : 0 < k) (x0 x1 : D) : callM Γ tb k 23 [x0, x1] s = (exec Γ (callM Γ tb (k - 1)) false fuelW f23 [.sh x0, .sh x1] s).bind endO := by
  rw [callM_ir (tb := tb) rfl hk]; exact runF_eq rfl
theorem run24 (hk : 0 < k) (x0 x1 : D) : callM Γ tb k 24 [x0, x1] s = (exec Γ (callM Γ tb (k - 1)) false fuelW f24 [.sh x0, .sh x1, .no] s).bind endO := by
  rw [callM_ir (tb := tb) rfl hk]; exact runF_eq rfl
theorem run25 (hk : 0 < k) (x0 x1 : D) : callM Γ tb k 25 [x0, x1] s = (exec Γ (callM Γ tb (k - 1)) false fuelW f25 [.sh x0, .sh x1] s).bind endO := by
  rw [callM_ir (tb := tb) rfl hk]; exact runF_eq rfl
theorem run26 (hk : 0 < k) (x0 x1 x2 : D) : callM Γ tb k 26 [x0, x1, x2] s = (exec Γ (callM Γ tb (k - 1)) false fuelW f26 [.sh x0, .sh x1, .sh x2] s).bind endO := by
  rw [callM_ir (tb := tb) rfl hk]; exact runF_eq rfl
theorem run27 (hk : 0 < k) (x0 x1 x2 : D) : callM Γ tb k 27 [x0, x1, x2] s = (exec Γ (callM Γ tb (k - 1)) false fuelW f27 [.sh x0, .sh x1, .sh x2, .no, .no, .no] s).bind endO := by
  rw [callM_ir (tb := tb) rfl hk]; exact runF_eq rfl
theorem run28 (hk : 0 < k) (x0 x1 x2 : D) : callM Γ tb k 28 [x0, x1, x2] s = (exec Γ (callM Γ tb (k - 1)) false fuelW f28 [.sh x0, .sh x1, .sh x2, .no] s).bind endO := by
  rw [callM_ir (tb := tb) rfl hk]; exact runF_eq rfl
theorem run29 (hk : 0 < k) (x0 x1 x2 : D) : callM Γ tb k 29 [x0, x1, x2] s = (exec Γ (callM Γ tb (k - 1)) false fuelW f29 [.sh x0, .sh x1, .sh x2, .no] s).bind endO := by
  rw [callM_ir (tb := tb) rfl hk]; exact runF_eq rfl
theorem run30 (hk : 0 < k) (x0 x1 x2 : D) : callM Γ tb k 30 [x0, x1, x2] s = (exec Γ (callM Γ tb (k - 1)) false fuelW f30 [.sh x0, .sh x1, .sh x2, .no] s).bind endO := by
  rw [callM_ir (tb := tb) rfl hk]; exact runF_eq rfl
theorem run31 (hk : 0 < k) (x0 : D) : callM Γ tb k 31 [x0] s = (exec Γ (callM Γ tb (k - 1)) true fuelW f31 [.sh x0, .no, .no, .no, .no, .no] s).bind endO := by
  rw [callM_ir (tb := tb) rfl hk]; exact runF_eq rfl
theorem run32 (hk : 0 < k) (x0 : D) : callM Γ tb k 32 [x0] s = (exec Γ (callM Γ tb (k - 1)) true fuelW f32 [.sh x0, .no, .no, .no, .no, .no, .no, .no, .no, .no] s).bind endO := by
  rw [callM_ir (tb := tb) rfl hk]; exact runF_eq rfl
theorem run33 (hk : 0 < k) (x0 x1 x2 : D) : callM Γ tb k 33 [x0, x1, x2] s = (exec Γ (callM Γ tb (k - 1)) true fuelW f33 [.sh x0, .sh x1, .sh x2, .no, .no, .no, .no, .no] s).bind endO := by
  rw [callM_ir (tb := tb) rfl hk]; exact runF_eq rfl
theorem run34 (hk : 0 < k) (x0 : D) : callM Γ tb k 34 [x0] s = (exec Γ (callM Γ tb (k - 1)) false fuelW f34 [.sh x0, .no, .no, .no, .no, .no, .no, .no, .no, .no, .no, .no, .no, .no] s).bind endO := by
  rw [callM_ir (tb := tb) rfl hk]; exact runF_eq rfl
theorem run35 (hk : 0 < k) (x0 x1 : D) : callM Γ tb k 35 [x0, x1] s = (exec Γ (callM Γ tb (k - 1)) true fuelW f35 [.sh x0, .sh x1, .no, .no, .no, .no, .no] s).bind endO := by
  rw [callM_ir (tb := tb) rfl hk]; exact runF_eq rfl
theorem run36 (hk : 0 < k) (x0 : D) : callM Γ tb k 36 [x0] s = (exec Γ (callM Γ tb (k - 1)) true fuelW f36 [.sh x0, .no, .no, .no, .no, .no, .no] s).bind endO := by
  rw [callM_ir (tb := tb) rfl hk]; exact runF_eq rfl
theorem run37 (hk : 0 < k) (x0 : D) : callM Γ tb k 37 [x0] s = (exec Γ (callM Γ tb (k - 1)) true fuelW f37 [.sh x0, .no, .no, .no] s).bind endO := by
  rw [callM_ir (tb := tb) rfl hk]; exact runF_eq rfl
theorem run38 (hk : 0 < k) (x0 : D) : callM Γ tb k 38 [x0] s = (exec Γ (callM Γ tb (k - 1)) false fuelW f38 [.sh x0, .no, .no, .no, .no, .no] s).bind endO := by
  rw [callM_ir (tb := tb) rfl hk]; exact runF_eq rfl
theorem run39 (hk : 0 < k) (x0 : D) : callM Γ tb k 39 [x0] s = (exec Γ (callM Γ tb (k - 1)) false fuelW f39 [.sh x0, .no, .no] s).bind endO := by
  rw [callM_ir (tb := tb) rfl hk]; exact runF_eq rfl
theorem run40 (hk : 0 < k) (x0 : D) : callM Γ tb k 40 [x0] s = (exec Γ (callM Γ tb (k - 1)) false fuelW f40 [.sh x0, .no, .no] s).bind endO := by
  rw [callM_ir (tb := tb) rfl hk]; exact runF_eq rfl
theorem run43 (hk : 0 < k) (x0 x1 x2 : D) : callM Γ tb k 43 [x0, x1, x2] s = (exec Γ (callM Γ tb (k - 1)) false fuelW f43 [.sh x0, .sh x1, .sh x2] s).bind endO := by
  rw [callM_ir (tb := tb) rfl hk]; exact runF_eq rfl
theorem run44 (hk : 0 < k) (x0 x1 : D) : callM Γ tb k 44 [x0, x1] s = (exec Γ (callM Γ tb (k - 1)) false fuelW f44 [.sh x0, .sh x1] s).bind endO := by
  rw [callM_ir (tb := tb) rfl hk]; exact runF_eq rfl
theorem run45 (hk : 0 < k) (x0 x1 : D) : callM Γ tb k 45 [x0, x1] s = (exec Γ (callM Γ tb (k - 1)) true fuelW f45 [.sh x0, .sh x1, .no, .no, .no] s).bind endO := by
  rw [callM_ir (tb := tb) rfl hk]; exact runF_eq rfl
theorem run46 (hk : 0 < k) (x0 x1 : D) : callM Γ tb k 46 [x0, x1] s = (exec Γ (callM Γ tb (k - 1)) false fuelW f46 [.sh x0, .sh x1, .no, .no, .no] s).bind endO := by
  rw [callM_ir (tb := tb) rfl hk]; exact runF_eq rfl
theorem run47 (hk : 0 < k) (x0 : D) : callM Γ tb k 47 [x0] s = (exec Γ (callM Γ tb (k - 1)) false fuelW f47 [.sh x0, .no, .no, .no] s).bind endO := by
  rw [callM_ir (tb := tb) rfl hk]; exact runF_eq rfl
theorem run48 (hk : 0 < k) (x0 : D) : callM Γ tb k 48 [x0] s = (exec Γ (callM Γ tb (k - 1)) false fuelW f48 [.sh x0] s).bind endO := by
  rw [callM_ir (tb := tb) rfl hk]; exact runF_eq rfl
theorem run49 (hk : 0 < k) (x0 x1 : D) : callM Γ tb k 49 [x0, x1] s = (exec Γ (callM Γ tb (k - 1)) false fuelW f49 [.sh x0, .sh x1, .no] s).bind endO := by
  rw [callM_ir (tb := tb) rfl hk]; exact runF_eq rfl
theorem run50 (hk : 0 < k) (x0 x1 : D) : callM Γ tb k 50 [x0, x1] s = (exec Γ (callM Γ tb (k - 1)) true fuelW f50 [.sh x0, .sh x1, .no, .no, .no, .no, .no] s).bind endO := by
  rw [callM_ir (tb := tb) rfl hk]; exact runF_eq rfl
theorem run51 (hk : 0 < k) (x0 : D) : callM Γ tb k 51 [x0] s = (exec Γ (callM Γ tb (k - 1)) false fuelW f51 [.sh x0, .no] s).bind endO := by
  rw [callM_ir (tb := tb) rfl hk]; exact runF_eq rfl
theorem run52 (hk : 0 < k) (x0 x1 x2 : D) : callM Γ tb k 52 [x0, x1, x2] s = (exec Γ (callM Γ tb (k - 1)) true fuelW f52 [.sh x0, .sh x1, .sh x2, .no, .no, .no] s).bind endO := by
  rw [callM_ir (tb := tb) rfl hk]; exact runF_eq rfl
theorem run53 (hk : 0 < k) (x0 x1 x2 x3 : D) : callM Γ tb k 53 [x0, x1, x2, x3] s = (exec Γ (callM Γ tb (k - 1)) true fuelW f53 [.sh x0, .sh x1, .sh x2, .sh x3, .no, .no, .no, .no, .no, .no, .no, .no, .no, .no, .no] s).bind endO := by
  rw [callM_ir (tb := tb) rfl hk]; exact runF_eq rfl
theorem run54 (hk : 0 < k) (x0 : D) : callM Γ tb k 54 [x0] s = (exec Γ (callM Γ tb (k - 1)) true fuelW f54 [.sh x0, .no, .no, .no, .no] s).bind endO := by
  rw [callM_ir (tb := tb) rfl hk]; exact runF_eq rfl
theorem run55 (hk : 0 < k) (x0 x1 x2 : D) : callM Γ tb k 55 [x0, x1, x2] s = (exec Γ (callM Γ tb (k - 1)) false fuelW f55 [.sh x0, .sh x1, .sh x2, .no, .no, .no, .no, .no, .no, .no] s).bind endO := by
  rw [callM_ir (tb := tb) rfl hk]; exact runF_eq rfl
theorem run56 (hk : 0 < k) (x0 x1 : D) : callM Γ tb k 56 [x0, x1] s = (exec Γ (callM Γ tb (k - 1)) false fuelW f56 [.sh x0, .sh x1, .no, .no, .no, .no, .no, .no] s).bind endO := by
  rw [callM_ir (tb := tb) rfl hk]; exact runF_eq rfl
theorem runG55 {Γ1 : Gm} {tb1 : Nat → Fn} (h : tb1 55 = tb 55) (hk : 0 < k) (x0 x1 x2 : D) : callM Γ1 tb1 k 55 [x0, x1, x2] s = (exec Γ1 (callM Γ1 tb1 (k - 1)) false fuelW f55 [.sh x0, .sh x1, .sh x2, .no, .no, .no, .no, .no, .no, .no] s).bind endO := by
  rw [callM_ir (h.trans rfl) hk]; exact runF_eq rfl
@[simp] theorem fl0 : Γ.fl 0 = true := rfl
@[simp] theorem fr0 : Γ.fr 0 = false := rfl
@[simp] theorem fl1 : Γ.fl 1 = true := rfl
@[simp] theorem fr1 : Γ.fr 1 = false := rfl
@[simp] theorem fl2 : Γ.fl 2 = true := rfl
@[simp] theorem fr2 : Γ.fr 2 = false := rfl
@[simp] theorem fl3 : Γ.fl 3 = true := rfl
@[simp] theorem fr3 : Γ.fr 3 = false := rfl
@[simp] theorem fl4 : Γ.fl 4 = true := rfl
@[simp] theorem fr4 : Γ.fr 4 = false := rfl
@[simp] theorem fl5 : Γ.fl 5 = false := rfl
@[simp] theorem fr5 : Γ.fr 5 = false := rfl
@[simp] theorem fl6 : Γ.fl 6 = false := rfl
@[simp] theorem fr6 : Γ.fr 6 = false := rfl
@[simp] theorem fl7 : Γ.fl 7 = false := rfl
@[simp] theorem fr7 : Γ.fr 7 = false := rfl
@[simp] theorem fl8 : Γ.fl 8 = false := rfl
@[simp] theorem fr8 : Γ.fr 8 = false := rfl
@[simp] theorem fl9 : Γ.fl 9 = false := rfl
@[simp] theorem fr9 : Γ.fr 9 = false := rfl
@[simp] theorem fl10 : Γ.fl 10 = false := rfl
@[simp] theorem fr10 : Γ.fr 10 = false := rfl
@[simp] theorem fl11 : Γ.fl 11 = true := rfl
@[simp] theorem fr11 : Γ.fr 11 = false := rfl
@[simp] theorem fl12 : Γ.fl 12 = true := rfl
@[simp] theorem fr12 : Γ.fr 12 = false := rfl
@[simp] theorem fl13 : Γ.fl 13 = true := rfl
@[simp] theorem fr13 : Γ.fr 13 = false := rfl
@[simp] theorem fl14 : Γ.fl 14 = true := rfl
@[simp] theorem fr14 : Γ.fr 14 = false := rfl
@[simp] theorem fl15 : Γ.fl 15 = false := rfl
@[simp] theorem fr15 : Γ.fr 15 = false := rfl
@[simp] theorem fl16 : Γ.fl 16 = false := rfl
@[simp] theorem fr16 : Γ.fr 16 = true := rfl
@[simp] theorem fl17 : Γ.fl 17 = false := rfl
@[simp] theorem fr17 : Γ.fr 17 = true := rfl
@[simp] theorem fl18 : Γ.fl 18 = false := rfl
@[simp] theorem fr18 : Γ.fr 18 = false := rfl
@[simp] theorem fl19 : Γ.fl 19 = false := rfl
@[simp] theorem fr19 : Γ.fr 19 = true := rfl
@[simp] theorem fl20 : Γ.fl 20 = false := rfl
@[simp] theorem fr20 : Γ.fr 20 = false := rfl
@[simp] theorem fl21 : Γ.fl 21 = true := rfl
@[simp] theorem fr21 : Γ.fr 21 = false := rfl
@[simp] theorem fl22 : Γ.fl 22 = true := rfl
@[simp] theorem fr22 : Γ.fr 22 = false := rfl
@[simp] theorem fl23 : Γ.fl 23 = true := rfl
@[simp] theorem fr23 : Γ.fr 23 = false := rfl
@[simp] theorem fl24 : Γ.fl 24 = true := rfl
@[simp] theorem fr24 : Γ.fr 24 = false := rfl
@[simp] theorem fl25 : Γ.fl 25 = true := rfl
@[simp] theorem fr25 : Γ.fr 25 = false := rfl
@[simp] theorem fl26 : Γ.fl 26 = true := rfl
@[simp] theorem fr26 : Γ.fr 26 = false := rfl
@[simp] theorem fl27 : Γ.fl 27 = false := rfl
@[simp] theorem fr27 : Γ.fr 27 = false := rfl
@[simp] theorem fl28 : Γ.fl 28 = false := rfl
@[simp] theorem fr28 : Γ.fr 28 = false := rfl
@[simp] theorem fl29 : Γ.fl 29 = false := rfl
@[simp] theorem fr29 : Γ.fr 29 = false := rfl
@[simp] theorem fl30 : Γ.fl 30 = false := rfl
@[simp] theorem fr30 : Γ.fr 30 = false := rfl
@[simp] theorem fl31 : Γ.fl 31 = false := rfl
@[simp] theorem fr31 : Γ.fr 31 = true := rfl
@[simp] theorem fl32 : Γ.fl 32 = false := rfl
@[simp] theorem fr32 : Γ.fr 32 = true := rfl
@[simp] theorem fl33 : Γ.fl 33 = false := rfl
@[simp] theorem fr33 : Γ.fr 33 = true := rfl
@[simp] theorem fl34 : Γ.fl 34 = false := rfl
@[simp] theorem fr34 : Γ.fr 34 = false := rfl
@[simp] theorem fl35 : Γ.fl 35 = false := rfl
@[simp] theorem fr35 : Γ.fr 35 = true := rfl
@[simp] theorem fl36 : Γ.fl 36 = false := rfl
@[simp] theorem fr36 : Γ.fr 36 = true := rfl
@[simp] theorem fl37 : Γ.fl 37 = false := rfl
@[simp] theorem fr37 : Γ.fr 37 = true := rfl
@[simp] theorem fl38 : Γ.fl 38 = false := rfl
@[simp] theorem fr38 : Γ.fr 38 = false := rfl
@[simp] theorem fl39 : Γ.fl 39 = false := rfl
@[simp] theorem fr39 : Γ.fr 39 = false := rfl
@[simp] theorem fl40 : Γ.fl 40 = true := rfl
@[simp] theorem fr40 : Γ.fr 40 = false := rfl
@[simp] theorem fl41 : Γ.fl 41 = false := rfl
@[simp] theorem fr41 : Γ.fr 41 = false := rfl
@[simp] theorem fl42 : Γ.fl 42 = true := rfl
@[simp] theorem fr42 : Γ.fr 42 = false := rfl
@[simp] theorem fl43 : Γ.fl 43 = true := rfl
@[simp] theorem fr43 : Γ.fr 43 = false := rfl
@[simp] theorem fl44 : Γ.fl 44 = false := rfl
@[simp] theorem fr44 : Γ.fr 44 = false := rfl
@[simp] theorem fl45 : Γ.fl 45 = false := rfl
@[simp] theorem fr45 : Γ.fr 45 = true := rfl
@[simp] theorem fl46 : Γ.fl 46 = true := rfl
@[simp] theorem fr46 : Γ.fr 46 = false := rfl
@[simp] theorem fl47 : Γ.fl 47 = false := rfl
@[simp] theorem fr47 : Γ.fr 47 = false := rfl
@[simp] theorem fl48 : Γ.fl 48 = true := rfl
@[simp] theorem fr48 : Γ.fr 48 = false := rfl
@[simp] theorem fl49 : Γ.fl 49 = true := rfl
@[simp] theorem fr49 : Γ.fr 49 = false := rfl
@[simp] theorem fl50 : Γ.fl 50 = false := rfl
@[simp] theorem fr50 : Γ.fr 50 = true := rfl
@[simp] theorem fl51 : Γ.fl 51 = false := rfl
@[simp] theorem fr51 : Γ.fr 51 = false := rfl
@[simp] theorem fl52 : Γ.fl 52 = false := rfl
@[simp] theorem fr52 : Γ.fr 52 = true := rfl
@[simp] theorem fl53 : Γ.fl 53 = false := rfl
@[simp] theorem fr53 : Γ.fr 53 = true := rfl
@[simp] theorem fl54 : Γ.fl 54 = false := rfl
@[simp] theorem fr54 : Γ.fr 54 = true := rfl
@[simp] theorem fl55 : Γ.fl 55 = false := rfl
@[simp] theorem fr55 : Γ.fr 55 = false := rfl
@[simp] theorem fl56 : Γ.fl 56 = true := rfl
@[simp] theorem fr56 : Γ.fr 56 = false := rfl
@[simp] theorem fl57 : Γ.fl 57 = true := rfl
@[simp] theorem fr57 : Γ.fr 57 = false := rfl
@[simp] theorem fl58 : Γ.fl 58 = false := rfl
@[simp] theorem fr58 : Γ.fr 58 = false := rfl
theorem Γmt (f : Nat) : Γ.mt f = (mtT[f]?).getD none := rfl
end
end K94
end
section
set_option Elab.async false
set_option linter.all false
set_option maxRecDepth 100000
set_option maxHeartbeats 4100000
namespace K94
open L2 IR
open PySem (Str PyData)
section
variable {Γ1 : Gm} {tb1 : Nat → Fn} (S : Sm Γ1 tb1) {k : Nat} {s : DS}
include S
theorem is_list_l (hk : 1 ≤ k) (xs : List D) : callM Γ1 tb1 k 0 [.lst xs] s = .ok (.bl true) s := by
  rw [run0 S (by omega)]
  simp [f0, IR.exec, ev, evs, evp, itM, setL, mkSlot, mdOf, frzE, retOk, isC, asgP_n, asgP_t, asgPs_nil, asgPs_cons, isNop_nop, isNop_rv, isNop_v, isNop_c, isNop_bin, isNop_call, isNop_sub, isNop_bi, flatO, flatD, isTs, isT, objOk, isNonD, wipeE, cmpD, binD, biD, subD, slD, isDct, isLst, -List.length_flatMap, -List.map_drop, -List.map_take]
theorem is_list_t (hk : 1 ≤ k) (xs : List D) : callM Γ1 tb1 k 0 [.tup xs] s = .ok (.bl true) s := by
  rw [run0 S (by omega)]
  simp [f0, IR.exec, ev, evs, evp, itM, setL, mkSlot, mdOf, frzE, retOk, isC, asgP_n, asgP_t, asgPs_nil, asgPs_cons, isNop_nop, isNop_rv, isNop_v, isNop_c, isNop_bin, isNop_call, isNop_sub, isNop_bi, flatO, flatD, isTs, isT, objOk, isNonD, wipeE, cmpD, binD, biD, subD, slD, isDct, isLst, -List.length_flatMap, -List.map_drop, -List.map_take]
theorem is_text_s (hk : 1 ≤ k) (x : Str) : callM Γ1 tb1 k 2 [.str x] s = .ok (.bl true) s := by
  rw [run2 S (by omega)]
  simp [f2, IR.exec, ev, evs, evp, itM, setL, mkSlot, mdOf, frzE, retOk, isC, asgP_n, asgP_t, asgPs_nil, asgPs_cons, isNop_nop, isNop_rv, isNop_v, isNop_c, isNop_bin, isNop_call, isNop_sub, isNop_bi, flatO, flatD, isTs, isT, objOk, isNonD, wipeE, cmpD, binD, biD, subD, slD, isDct, isLst, -List.length_flatMap, -List.map_drop, -List.map_take]
theorem is_row_t (hk : 2 ≤ k) (a b c d : D) : callM Γ1 tb1 k 1 [.tup [a, b, c, d], .int 4] s = .ok (.bl true) s := by
  rw [run1 S (by omega)]
  simp [f1, IR.exec, ev, evs, evp, itM, setL, mkSlot, mdOf, frzE, retOk, isC, asgP_n, asgP_t, asgPs_nil, asgPs_cons, isNop_nop, isNop_rv, isNop_v, isNop_c, isNop_bin, isNop_call, isNop_sub, isNop_bi, flatO, flatD, isTs, isT, objOk, isNonD, wipeE, cmpD, binD, biD, subD, slD, isDct, isLst, -List.length_flatMap, -List.map_drop, -List.map_take, S.fl, is_list_t S (k := k - 1) (by omega), eqD_int]
theorem is_one_of_s (hk : 2 ≤ k) {x : Str} {xs : List Str} (h : okS x) (hx : ∀ x ∈ xs, okS x) : callM Γ1 tb1 k 12 [.lst (xs.map .str), .str x] s = .ok (.bl (decide (x ∈ xs))) s := by
  rw [run12 S (by omega)]
  simp [f12, IR.exec, ev, evs, evp, itM, setL, mkSlot, mdOf, frzE, retOk, isC, asgP_n, asgP_t, asgPs_nil, asgPs_cons, isNop_nop, isNop_rv, isNop_v, isNop_c, isNop_bin, isNop_call, isNop_sub, isNop_bi, flatO, flatD, isTs, isT, objOk, isNonD, wipeE, cmpD, binD, biD, subD, slD, isDct, isLst, -List.length_flatMap, -List.map_drop, -List.map_take, S.fl, is_text_s S (k := k - 1) (by omega), inD_strs h hx]
theorem is_letters_w (hk : 2 ≤ k) {x : Str} (h : okW x) : callM Γ1 tb1 k 3 [.str x] s = .ok (.bl true) s := by
  rw [run3 S (by omega)]
  have e : lcM (.n 1) [.sh (.str x), .no] (fun ρ s => .ok (.bl true) s) (fun ρ s => ev Γ1 (callM Γ1 tb1 (k - 1)) e3_0 ρ s) (strSigns x) s = .ok (x.cps.toList.map fun _ => D.bl true) s := by
    unfold strSigns
    refine lcM_map (fun _ => .bl true) (fun c => [.sh (.str x), .sh (.str ⟨#[c]⟩)]) fun c hc => ⟨rfl, ?_⟩
    simp [e3_0, IR.exec, ev, evs, evp, itM, setL, mkSlot, mdOf, frzE, retOk, isC, asgP_n, asgP_t, asgPs_nil, asgPs_cons, isNop_nop, isNop_rv, isNop_v, isNop_c, isNop_bin, isNop_call, isNop_sub, isNop_bi, flatO, flatD, isTs, isT, objOk, isNonD, wipeE, cmpD, binD, biD, subD, slD, isDct, isLst, -List.length_flatMap, -List.map_drop, -List.map_take, letter (h.2.2 c hc)]
  have h1 := h.1
  have h2 : x.length ≤ lim := le_lim (by have := h.2.1; omega)
  simp [f3, IR.exec, ev, evs, evp, itM, setL, mkSlot, mdOf, frzE, retOk, isC, asgP_n, asgP_t, asgPs_nil, asgPs_cons, isNop_nop, isNop_rv, isNop_v, isNop_c, isNop_bin, isNop_call, isNop_sub, isNop_bi, flatO, flatD, isTs, isT, objOk, isNonD, wipeE, cmpD, binD, biD, subD, slD, isDct, isLst, -List.length_flatMap, -List.map_drop, -List.map_take, S.fl, is_text_s S (k := k - 1) (by omega), e, h1, h2, blsOf_true]
theorem is_word_w (hk : 3 ≤ k) {x : Str} (h : okW x) : callM Γ1 tb1 k 4 [.str x] s = .ok (.bl true) s := by
  rw [run4 S (by omega)]
  have h1 := h.2.1
  have h2 : x.length ≤ lim := le_lim (by have := h.2.1; omega)
  simp [f4, IR.exec, ev, evs, evp, itM, setL, mkSlot, mdOf, frzE, retOk, isC, asgP_n, asgP_t, asgPs_nil, asgPs_cons, isNop_nop, isNop_rv, isNop_v, isNop_c, isNop_bin, isNop_call, isNop_sub, isNop_bi, flatO, flatD, isTs, isT, objOk, isNonD, wipeE, cmpD, binD, biD, subD, slD, isDct, isLst, -List.length_flatMap, -List.map_drop, -List.map_take, S.fl, is_letters_w S (k := k - 1) (by omega) h, h1, h2]
  omega
theorem wrong_names_ok (hk : 4 ≤ k) {xs : List Str} (hw : ∀ x ∈ xs, okW x) (hn : xs.Nodup) (h0 : xs ≠ []) : callM Γ1 tb1 k 11 [.lst (xs.map .str)] s = .ok .non s := by
  rw [run11 S (by omega)]
  have h1 : (xs.length : Int) ≠ 0 := by
    have := List.length_pos_iff.mpr h0
    omega
  have hs : Sat (forM (fun ρ s => IR.exec Γ1 (callM Γ1 tb1 (k - 1)) false fuelW b11_0 ρ s) (.t (.cons (.n 1) (.cons (.n 2) .nil))) (xs.zipIdx.map fun q => .tup [.int q.2, .str q.1]) [.sh (.lst (xs.map .str)), .no, .no] s)
      (fun fl s' => s' = s ∧ ∃ ρ, fl = .nx ρ) := by
    refine forM_sat (fun pre ρ s' => s' = s ∧ ∃ a b, ρ = [.sh (.lst (xs.map .str)), a, b]) ⟨rfl, _, _, rfl⟩ ?_ ?_
    · rintro pre ⟨x, i⟩ post ρ s' e ⟨rfl, a, b, rfl⟩
      obtain ⟨e1, e2⟩ := zipIdx_split e
      refine ⟨_, rfl, ?_⟩
      have hx : x ∈ xs := by rw [e2]; simp
      have ht : xs.take i = pre.map (·.1) := by
        rw [e1, e2]
        simp
      have hnot : x ∉ xs.take i := by
        rw [ht]
        intro hm
        rw [e2, List.nodup_append] at hn
        exact hn.2.2 x hm x (List.mem_cons_self ..) rfl
      have hin := inD_strs (xs := xs.take i) (hw x hx).s fun y hy => (hw y (List.mem_of_mem_take hy)).s
      rw [decide_eq_false hnot, List.map_take] at hin
      simp only [Nat.zero_add] at e1
      simp [b11_0, IR.exec, ev, evs, evp, itM, setL, mkSlot, mdOf, frzE, retOk, isC, asgP_n, asgP_t, asgPs_nil, asgPs_cons, isNop_nop, isNop_rv, isNop_v, isNop_c, isNop_bin, isNop_call, isNop_sub, isNop_bi, flatO, flatD, isTs, isT, objOk, isNonD, wipeE, cmpD, binD, biD, subD, slD, isDct, isLst, -List.length_flatMap, -List.map_drop, -List.map_take, S.fl, is_word_w S (k := k - 1) (by omega) (hw x hx), intO, cut_to, hin]
    · rintro ρ s' ⟨rfl, _⟩
      exact ⟨rfl, ρ, rfl⟩
  obtain ⟨fl, s', e, rfl, ρ, rfl⟩ := sat_ex hs
  simp [f11, IR.exec, ev, evs, evp, itM, setL, mkSlot, mdOf, frzE, retOk, isC, asgP_n, asgP_t, asgPs_nil, asgPs_cons, isNop_nop, isNop_rv, isNop_v, isNop_c, isNop_bin, isNop_call, isNop_sub, isNop_bi, flatO, flatD, isTs, isT, objOk, isNonD, wipeE, cmpD, binD, biD, subD, slD, isDct, isLst, -List.length_flatMap, -List.map_drop, -List.map_take, S.fl, is_list_l S (k := k - 1) (by omega), eqD_int, h0, enumD_map, e, t11_1]
theorem is_row_in_ok (hk : 4 ≤ k) {R : Raw} (ok : RawOk R) {r : Row} (hr : r ∈ R.rw) : callM Γ1 tb1 k 13 [.lst (R.st.map .str), .lst (R.bt.map .str), rowD r] s = .ok (.bl true) s := by
  rw [run13 S (by omega)]
  obtain ⟨h1, h2, h3, h4⟩ := ok.rws r hr
  unfold rowD
  simp [f13, IR.exec, ev, evs, evp, itM, setL, mkSlot, mdOf, frzE, retOk, isC, asgP_n, asgP_t, asgPs_nil, asgPs_cons, isNop_nop, isNop_rv, isNop_v, isNop_c, isNop_bin, isNop_call, isNop_sub, isNop_bi, flatO, flatD, isTs, isT, objOk, isNonD, wipeE, cmpD, binD, biD, subD, slD, isDct, isLst, -List.length_flatMap, -List.map_drop, -List.map_take, S.fl, is_row_t S (k := k - 1) (by omega), is_one_of_s S (k := k - 1) (by omega) (ok.ss _ h1) ok.ss, is_one_of_s S (k := k - 1) (by omega) (ok.bs _ h2) ok.bs,
    is_one_of_s S (k := k - 1) (by omega) (ok.ss _ h4) ok.ss, is_word_w S (k := k - 1) (by omega) h3, atI_0, atI_1, atI_2, atI_3, h1, h2, h4]
theorem wrong_rows_ok (hk : 5 ≤ k) {R : Raw} (ok : RawOk R) : callM Γ1 tb1 k 14 [.lst (R.st.map .str), .lst (R.bt.map .str), .lst (R.rw.map rowD)] s = .ok .non s := by
  rw [run14 S (by omega)]
  have hs : Sat (forM (fun ρ s => IR.exec Γ1 (callM Γ1 tb1 (k - 1)) false fuelW b14_0 ρ s) (.t (.cons (.n 4) (.cons (.n 5) .nil))) (R.rw.zipIdx.map fun q => .tup [.int q.2, rowD q.1]) [.sh (.lst (R.st.map .str)), .sh (.lst (R.bt.map .str)), .sh (.lst (R.rw.map rowD)), .own (.dct true []), .no, .no] s)
      (fun fl s' => s' = s ∧ ∃ ρ, fl = .nx ρ) := by
    refine forM_sat (fun pre ρ s' => s' = s ∧ ∃ a b, ρ = [.sh (.lst (R.st.map .str)), .sh (.lst (R.bt.map .str)), .sh (.lst (R.rw.map rowD)), .own (.dct true (pre.map fun q => (kyP (rkey q.1), .bl true))), a, b]) ⟨rfl, _, _, rfl⟩ ?_ ?_
    · rintro pre ⟨r, i⟩ post ρ s' e ⟨rfl, a, b, rfl⟩
      obtain ⟨e1, e2⟩ := zipIdx_split e
      refine ⟨_, rfl, ?_⟩
      have hr : r ∈ R.rw := by rw [e2]; simp
      have hri : callM Γ1 tb1 (k - 1) 13 [.lst (R.st.map .str), .lst (R.bt.map .str), .tup [.str r.1, .str r.2.1, .str r.2.2.1, .str r.2.2.2]] s' = .ok (.bl true) s' := is_row_in_ok S (k := k - 1) (by omega) ok hr
      have hany : ((pre.map fun q => (kyP (rkey q.1), D.bl true)).any fun p => decide (p.1 = kyP (r.1, r.2.1))) = false := by
        rw [Bool.eq_false_iff]
        intro h
        obtain ⟨z, hz, ez⟩ := List.any_eq_true.mp h
        obtain ⟨q, hq, rfl⟩ := List.mem_map.mp hz
        have ez := kyP_inj (of_decide_eq_true ez)
        have key := ok.key
        rw [e2, List.map_append, List.nodup_append] at key
        exact key.2.2 (r.1, r.2.1) (ez ▸ List.mem_map_of_mem (List.mem_map_of_mem (f := (·.1)) hq)) (r.1, r.2.1) (List.mem_map_of_mem (f := rkey) (List.mem_cons_self ..)) rfl
      have hlen : pre.length < lim := lt_lim <| by
        have := ok.rwl
        have e3 := congrArg List.length e2
        simp at e3
        omega
      have hin : inD (.tup [.str r.1, .str r.2.1]) (.dct true (pre.map fun q => (kyP (rkey q.1), D.bl true))) = some false := by
        unfold inD
        simp only [keyOf_ss, kyKind_P, if_true, hany]
      have hput : dput (pre.map fun q => (kyP (rkey q.1), D.bl true)) (kyP (r.1, r.2.1)) (.bl true) = (pre.map fun q => (kyP (rkey q.1), D.bl true)) ++ [(kyP (rkey r), .bl true)] := by
        unfold dput
        rw [hany]
        rfl
      simp [b14_0, IR.exec, ev, evs, evp, itM, setL, mkSlot, mdOf, frzE, retOk, isC, asgP_n, asgP_t, asgPs_nil, asgPs_cons, isNop_nop, isNop_rv, isNop_v, isNop_c, isNop_bin, isNop_call, isNop_sub, isNop_bi, flatO, flatD, isTs, isT, objOk, isNonD, wipeE, cmpD, binD, biD, subD, slD, isDct, isLst, -List.length_flatMap, -List.map_drop, -List.map_take, S.fl, hri, rowD, atI_0, atI_1, hin, hput, hlen]
    · rintro ρ s' ⟨rfl, _⟩
      exact ⟨rfl, ρ, rfl⟩
  obtain ⟨fl, s', e, rfl, ρ, rfl⟩ := sat_ex hs
  simp [f14, IR.exec, ev, evs, evp, itM, setL, mkSlot, mdOf, frzE, retOk, isC, asgP_n, asgP_t, asgPs_nil, asgPs_cons, isNop_nop, isNop_rv, isNop_v, isNop_c, isNop_bin, isNop_call, isNop_sub, isNop_bi, flatO, flatD, isTs, isT, objOk, isNonD, wipeE, cmpD, binD, biD, subD, slD, isDct, isLst, -List.length_flatMap, -List.map_drop, -List.map_take, S.fl, is_list_l S (k := k - 1) (by omega), enumD_map, e, t14_1]
end
end K94
end
section
set_option Elab.async false
set_option linter.all false
set_option maxRecDepth 100000
set_option maxHeartbeats 4100000
namespace K94
open L2 IR
open PySem (Str PyData)
def boxF (R : Raw) : List (Str × D) := [("_states", .lst (R.st.map .str)), ("_buttons", .lst (R.bt.map .str)), ("_table", .dct true (tabD R))]
def boxD (R : Raw) : D := .obj 7 (boxF R)
@[simp] theorem objOk_box (R : Raw) : objOk Γ (boxD R) = true := rfl
@[simp] theorem isTs_box (R : Raw) : isTs (boxD R) [.c 7] = some true := rfl
theorem fs1 (R : Raw) : List.lookup ("_states" : Str) (boxF R) = some (.lst (R.st.map .str)) := by
  unfold boxF
  rw [List.lookup_cons]
  have : (("_states" : Str) == ("_states" : Str)) = true := by decide +kernel
  rw [this]
theorem fs2 (R : Raw) : List.lookup ("_buttons" : Str) (boxF R) = some (.lst (R.bt.map .str)) := by
  unfold boxF
  rw [List.lookup_cons, List.lookup_cons]
  have h1 : (("_buttons" : Str) == ("_states" : Str)) = false := by decide +kernel
  have h2 : (("_buttons" : Str) == ("_buttons" : Str)) = true := by decide +kernel
  rw [h1, h2]
theorem fs3 (R : Raw) : List.lookup ("_table" : Str) (boxF R) = some (.dct true (tabD R)) := by
  unfold boxF
  rw [List.lookup_cons, List.lookup_cons, List.lookup_cons]
  have h1 : (("_table" : Str) == ("_states" : Str)) = false := by decide +kernel
  have h2 : (("_table" : Str) == ("_buttons" : Str)) = false := by decide +kernel
  have h3 : (("_table" : Str) == ("_table" : Str)) = true := by decide +kernel
  rw [h1, h2, h3]
theorem fsN (R : Raw) {x : Str} (h1 : (x == ("_states" : Str)) = false) (h2 : (x == ("_buttons" : Str)) = false) (h3 : (x == ("_table" : Str)) = false) : List.lookup x (boxF R) = none := by
  unfold boxF
  rw [List.lookup_cons, List.lookup_cons, List.lookup_cons, h1, h2, h3]
  rfl
@[simp] theorem mok_states (R : Raw) : mthOk Γ 16 (boxD R) = true := by
  have e : Γ.mt 16 = some (7, ("states" : Str)) := rfl
  unfold mthOk boxD
  rw [e]
  simp only [fsN R (x := "states") (by decide +kernel) (by decide +kernel) (by decide +kernel)]
  rfl
@[simp] theorem mok_buttons (R : Raw) : mthOk Γ 17 (boxD R) = true := by
  have e : Γ.mt 17 = some (7, ("buttons" : Str)) := rfl
  unfold mthOk boxD
  rw [e]
  simp only [fsN R (x := "buttons") (by decide +kernel) (by decide +kernel) (by decide +kernel)]
  rfl
@[simp] theorem mok_looked (R : Raw) : mthOk Γ 18 (boxD R) = true := by
  have e : Γ.mt 18 = some (7, ("looked_up" : Str)) := rfl
  unfold mthOk boxD
  rw [e]
  simp only [fsN R (x := "looked_up") (by decide +kernel) (by decide +kernel) (by decide +kernel)]
  rfl
theorem cat_box : (Γ.cls 7).isSome = true := rfl
theorem cat1 : (Γ.cat 7).contains "_states" = true := by decide +kernel
theorem cat2 : (Γ.cat 7).contains "_buttons" = true := by decide +kernel
theorem cat3 : (Γ.cat 7).contains "_table" = true := by decide +kernel
section
variable {k : Nat} {s : DS} {R : Raw}
theorem states_m (hk : 1 ≤ k) : callM Γ tb k 16 [boxD R] s = .ok (.lst (R.st.map .str)) s := by
  rw [run16 (by omega)]
  simp only [f16, IR.exec, ev, evs, evp, itM, setL, mkSlot, mdOf, frzE, retOk, isC, asgP_n, asgP_t, asgPs_nil, asgPs_cons, isNop_nop, isNop_rv, isNop_v, isNop_c, isNop_bin, isNop_call, isNop_sub, isNop_bi, flatO, flatD, isTs, isT, objOk, isNonD, wipeE, cmpD, binD, biD, subD, slD, isDct, isLst, -List.length_flatMap, -List.map_drop, -List.map_take, boxD, List.getElem?_cons_zero, bind_ok, cat_box, cat1, fs1]
  simp
theorem buttons_m (hk : 1 ≤ k) : callM Γ tb k 17 [boxD R] s = .ok (.lst (R.bt.map .str)) s := by
  rw [run17 (by omega)]
  simp only [f17, IR.exec, ev, evs, evp, itM, setL, mkSlot, mdOf, frzE, retOk, isC, asgP_n, asgP_t, asgPs_nil, asgPs_cons, isNop_nop, isNop_rv, isNop_v, isNop_c, isNop_bin, isNop_call, isNop_sub, isNop_bi, flatO, flatD, isTs, isT, objOk, isNonD, wipeE, cmpD, binD, biD, subD, slD, isDct, isLst, -List.length_flatMap, -List.map_drop, -List.map_take, boxD, List.getElem?_cons_zero, bind_ok, cat_box, cat2, fs2]
  simp
theorem looked_m (hk : 1 ≤ k) (x b : Str) : callM Γ tb k 18 [boxD R, .str x, .str b] s = .ok (lookD (look R x b)) s := by
  rw [run18 (by omega)]
  have e : getD? (.dct true (tabD R)) (.tup [.str x, .str b]) .non = some (lookD (look R x b)) := by
    unfold getD?
    simp only [keyOf_ss, kyKind_P, if_true, dget_tab]
    cases look R x b <;> rfl
  simp only [f18, IR.exec, ev, evs, evp, itM, setL, mkSlot, mdOf, frzE, retOk, isC, asgP_n, asgP_t, asgPs_nil, asgPs_cons, isNop_nop, isNop_rv, isNop_v, isNop_c, isNop_bin, isNop_call, isNop_sub, isNop_bi, flatO, flatD, isTs, isT, objOk, isNonD, wipeE, cmpD, binD, biD, subD, slD, isDct, isLst, -List.length_flatMap, -List.map_drop, -List.map_take, boxD, List.getElem?_cons_zero, bind_ok, cat_box, cat3, fs3]
  simp [e]
theorem need_box_m (hk : 1 ≤ k) : callM Γ tb k 21 [boxD R] s = .ok .non s := by
  rw [run21 (by omega)]
  have e := isTs_box R
  simp only [f21, IR.exec, ev, List.getElem?_cons_zero, bind_ok, objOk_box, e]
  simp
theorem check_state_m (ok : RawOk R) (hk : 3 ≤ k) {x : Str} (hx : x ∈ R.st) : callM Γ tb k 22 [boxD R, .str x] s = .ok .non s := by
  rw [run22 (by omega)]
  simp [f22, IR.exec, ev, evs, evp, itM, setL, mkSlot, mdOf, frzE, retOk, isC, asgP_n, asgP_t, asgPs_nil, asgPs_cons, isNop_nop, isNop_rv, isNop_v, isNop_c, isNop_bin, isNop_call, isNop_sub, isNop_bi, flatO, flatD, isTs, isT, objOk, isNonD, wipeE, cmpD, binD, biD, subD, slD, isDct, isLst, -List.length_flatMap, -List.map_drop, -List.map_take, states_m (k := k - 1) (by omega), is_one_of_s sm (k := k - 1) (by omega) (ok.ss _ hx) ok.ss, hx]
end
end K94
end
section
set_option Elab.async false
set_option linter.all false
set_option maxRecDepth 100000
set_option maxHeartbeats 4100000
namespace K94
open L2 IR
open PySem (Str PyData)
section
variable {k : Nat} {s : DS} {R : Raw}
theorem need_state_m (ok : RawOk R) (hk : 4 ≤ k) {x : Str} (hx : x ∈ R.st) : callM Γ tb k 23 [boxD R, .str x] s = .ok .non s := by
  rw [run23 (by omega)]
  simp [f23, IR.exec, ev, evs, evp, itM, setL, mkSlot, mdOf, frzE, retOk, isC, asgP_n, asgP_t, asgPs_nil, asgPs_cons, isNop_nop, isNop_rv, isNop_v, isNop_c, isNop_bin, isNop_call, isNop_sub, isNop_bi, flatO, flatD, isTs, isT, objOk, isNonD, wipeE, cmpD, binD, biD, subD, slD, isDct, isLst, -List.length_flatMap, -List.map_drop, -List.map_take, need_box_m (k := k - 1) (by omega), check_state_m ok (k := k - 1) (by omega) hx]
theorem are_presses_m (ok : RawOk R) (hk : 3 ≤ k) {ps : List Str} (hl : ps.length ≤ lim) (hp : ∀ b ∈ ps, b ∈ R.bt) : callM Γ tb k 24 [boxD R, .lst (ps.map .str)] s = .ok (.bl true) s := by
  rw [run24 (by omega)]
  have e : lcM (.n 2) [.sh (boxD R), .sh (.lst (ps.map .str)), .no] (fun ρ s => .ok (.bl true) s) (fun ρ s => ev Γ (callM Γ tb (k - 1)) e24_0 ρ s) (ps.map .str) s = .ok (ps.map fun _ => D.bl true) s := by
    refine lcM_map (fun _ => .bl true) (fun c => [.sh (boxD R), .sh (.lst (ps.map .str)), .sh (.str c)]) fun c hc => ⟨rfl, ?_⟩
    simp [e24_0, IR.exec, ev, evs, evp, itM, setL, mkSlot, mdOf, frzE, retOk, isC, asgP_n, asgP_t, asgPs_nil, asgPs_cons, isNop_nop, isNop_rv, isNop_v, isNop_c, isNop_bin, isNop_call, isNop_sub, isNop_bi, flatO, flatD, isTs, isT, objOk, isNonD, wipeE, cmpD, binD, biD, subD, slD, isDct, isLst, -List.length_flatMap, -List.map_drop, -List.map_take, buttons_m (k := k - 1) (by omega), is_one_of_s sm (k := k - 1) (by omega) (ok.bs _ (hp c hc)) ok.bs, hp c hc]
  simp [f24, IR.exec, ev, evs, evp, itM, setL, mkSlot, mdOf, frzE, retOk, isC, asgP_n, asgP_t, asgPs_nil, asgPs_cons, isNop_nop, isNop_rv, isNop_v, isNop_c, isNop_bin, isNop_call, isNop_sub, isNop_bi, flatO, flatD, isTs, isT, objOk, isNonD, wipeE, cmpD, binD, biD, subD, slD, isDct, isLst, -List.length_flatMap, -List.map_drop, -List.map_take, is_list_l sm (k := k - 1) (by omega), e, blsOf_true, hl]
theorem check_presses_m (ok : RawOk R) (hk : 4 ≤ k) {ps : List Str} (hl : ps.length ≤ lim) (hp : ∀ b ∈ ps, b ∈ R.bt) : callM Γ tb k 25 [boxD R, .lst (ps.map .str)] s = .ok .non s := by
  rw [run25 (by omega)]
  simp [f25, IR.exec, ev, evs, evp, itM, setL, mkSlot, mdOf, frzE, retOk, isC, asgP_n, asgP_t, asgPs_nil, asgPs_cons, isNop_nop, isNop_rv, isNop_v, isNop_c, isNop_bin, isNop_call, isNop_sub, isNop_bi, flatO, flatD, isTs, isT, objOk, isNonD, wipeE, cmpD, binD, biD, subD, slD, isDct, isLst, -List.length_flatMap, -List.map_drop, -List.map_take, are_presses_m ok (k := k - 1) (by omega) hl hp]
theorem need_presses_m (ok : RawOk R) (hk : 5 ≤ k) {x : Str} (hx : x ∈ R.st) {ps : List Str} (hl : ps.length ≤ lim) (hp : ∀ b ∈ ps, b ∈ R.bt) : callM Γ tb k 26 [boxD R, .str x, .lst (ps.map .str)] s = .ok .non s := by
  rw [run26 (by omega)]
  simp [f26, IR.exec, ev, evs, evp, itM, setL, mkSlot, mdOf, frzE, retOk, isC, asgP_n, asgP_t, asgPs_nil, asgPs_cons, isNop_nop, isNop_rv, isNop_v, isNop_c, isNop_bin, isNop_call, isNop_sub, isNop_bi, flatO, flatD, isTs, isT, objOk, isNonD, wipeE, cmpD, binD, biD, subD, slD, isDct, isLst, -List.length_flatMap, -List.map_drop, -List.map_take, need_state_m ok (k := k - 1) (by omega) hx, check_presses_m ok (k := k - 1) (by omega) hl hp]
@[simp] theorem lookD_some (q : Str × Str) : lookD (some q) = .tup [.str q.1, .str q.2] := rfl
@[simp] theorem lookD_none : lookD none = .non := rfl
theorem played_m (hk : 2 ≤ k) {x : Str} {ps : List Str} (hl : ps.length ≤ lim) : callM Γ tb k 27 [boxD R, .str x, .lst (ps.map .str)] s = .ok (playD (play R x ps)) s := by
  rw [run27 (by omega)]
  have hs : Sat (forM (fun ρ s => IR.exec Γ (callM Γ tb (k - 1)) false fuelW b27_0 ρ s) (.n 4) (ps.map .str) [.sh (boxD R), .sh (.str x), .sh (.lst (ps.map .str)), .own (.lst []), .no, .no] s)
      (fun fl s' => s' = s ∧ ((fl = .rt .non ∧ play R x ps = none) ∨ ∃ ws t a b, fl = .nx [.sh (boxD R), .sh (.str t), .sh (.lst (ps.map .str)), .own (.lst (ws.map .str)), a, b] ∧ play R x ps = some (ws, t))) := by
    refine forM_sat (fun pre ρ s' => s' = s ∧ ∃ ws t a b, ρ = [.sh (boxD R), .sh (.str t), .sh (.lst (ps.map .str)), .own (.lst (ws.map .str)), a, b] ∧ play R x pre = some (ws, t)) ⟨rfl, [], x, _, _, rfl, rfl⟩ ?_ ?_
    · rintro pre c post ρ s' e ⟨rfl, ws, t, a, b, rfl, hp⟩
      refine ⟨_, rfl, ?_⟩
      have h1 : play R x (pre ++ [c]) = (look R t c).map fun p => (ws ++ [p.1], p.2) := by
        rw [play_one, hp]
        rfl
      have hlen : ws.length < lim := by
        have h1 := play_len hp
        have h2 := congrArg List.length e
        simp at h2
        omega
      cases hq : look R t c with
      | none =>
        rw [hq] at h1
        have h2 : play R x ps = none := by
          rw [e, show pre ++ c :: post = (pre ++ [c]) ++ post by simp, play_append, h1]
          rfl
        simp [b27_0, IR.exec, ev, evs, evp, itM, setL, mkSlot, mdOf, frzE, retOk, isC, asgP_n, asgP_t, asgPs_nil, asgPs_cons, isNop_nop, isNop_rv, isNop_v, isNop_c, isNop_bin, isNop_call, isNop_sub, isNop_bi, flatO, flatD, isTs, isT, objOk, isNonD, wipeE, cmpD, binD, biD, subD, slD, isDct, isLst, -List.length_flatMap, -List.map_drop, -List.map_take, looked_m (k := k - 1) (by omega), hq, h2]
      | some q =>
        rw [hq] at h1
        simp [b27_0, IR.exec, ev, evs, evp, itM, setL, mkSlot, mdOf, frzE, retOk, isC, asgP_n, asgP_t, asgPs_nil, asgPs_cons, isNop_nop, isNop_rv, isNop_v, isNop_c, isNop_bin, isNop_call, isNop_sub, isNop_bi, flatO, flatD, isTs, isT, objOk, isNonD, wipeE, cmpD, binD, biD, subD, slD, isDct, isLst, -List.length_flatMap, -List.map_drop, -List.map_take, looked_m (k := k - 1) (by omega), hq, h1, hlen, atI_0, atI_1]
    · rintro ρ s' ⟨rfl, ws, t, a, b, rfl, hp⟩
      exact ⟨rfl, .inr ⟨ws, t, a, b, rfl, hp⟩⟩
  obtain ⟨fl, s', e, rfl, h⟩ := sat_ex hs
  rcases h with ⟨rfl, h⟩ | ⟨ws, t, a, b, rfl, h⟩
  · simp [f27, IR.exec, ev, evs, evp, itM, setL, mkSlot, mdOf, frzE, retOk, isC, asgP_n, asgP_t, asgPs_nil, asgPs_cons, isNop_nop, isNop_rv, isNop_v, isNop_c, isNop_bin, isNop_call, isNop_sub, isNop_bi, flatO, flatD, isTs, isT, objOk, isNonD, wipeE, cmpD, binD, biD, subD, slD, isDct, isLst, -List.length_flatMap, -List.map_drop, -List.map_take, e, h, playD]
  · simp [f27, IR.exec, ev, evs, evp, itM, setL, mkSlot, mdOf, frzE, retOk, isC, asgP_n, asgP_t, asgPs_nil, asgPs_cons, isNop_nop, isNop_rv, isNop_v, isNop_c, isNop_bin, isNop_call, isNop_sub, isNop_bi, flatO, flatD, isTs, isT, objOk, isNonD, wipeE, cmpD, binD, biD, subD, slD, isDct, isLst, -List.length_flatMap, -List.map_drop, -List.map_take, e, h, playD, t27_1]
theorem shown_m (ok : RawOk R) (hk : 6 ≤ k) {x : Str} (hx : x ∈ R.st) {ps : List Str} (hl : ps.length ≤ lim) (hp : ∀ b ∈ ps, b ∈ R.bt) : callM Γ tb k 28 [boxD R, .str x, .lst (ps.map .str)] s = .ok (match play R x ps with | some q => .lst (q.1.map .str) | none => .non) s := by
  rw [run28 (by omega)]
  cases h : play R x ps with
  | none => simp [f28, IR.exec, ev, evs, evp, itM, setL, mkSlot, mdOf, frzE, retOk, isC, asgP_n, asgP_t, asgPs_nil, asgPs_cons, isNop_nop, isNop_rv, isNop_v, isNop_c, isNop_bin, isNop_call, isNop_sub, isNop_bi, flatO, flatD, isTs, isT, objOk, isNonD, wipeE, cmpD, binD, biD, subD, slD, isDct, isLst, -List.length_flatMap, -List.map_drop, -List.map_take, need_presses_m ok (k := k - 1) (by omega) hx hl hp, played_m (k := k - 1) (by omega) hl, h, playD]
  | some q => simp [f28, IR.exec, ev, evs, evp, itM, setL, mkSlot, mdOf, frzE, retOk, isC, asgP_n, asgP_t, asgPs_nil, asgPs_cons, isNop_nop, isNop_rv, isNop_v, isNop_c, isNop_bin, isNop_call, isNop_sub, isNop_bi, flatO, flatD, isTs, isT, objOk, isNonD, wipeE, cmpD, binD, biD, subD, slD, isDct, isLst, -List.length_flatMap, -List.map_drop, -List.map_take, need_presses_m ok (k := k - 1) (by omega) hx hl hp, played_m (k := k - 1) (by omega) hl, h, playD, atI_0]
theorem after_m (ok : RawOk R) (hk : 6 ≤ k) {x : Str} (hx : x ∈ R.st) {ps : List Str} (hl : ps.length ≤ lim) (hp : ∀ b ∈ ps, b ∈ R.bt) : callM Γ tb k 29 [boxD R, .str x, .lst (ps.map .str)] s = .ok (match play R x ps with | some q => .str q.2 | none => .non) s := by
  rw [run29 (by omega)]
  cases h : play R x ps with
  | none => simp [f29, IR.exec, ev, evs, evp, itM, setL, mkSlot, mdOf, frzE, retOk, isC, asgP_n, asgP_t, asgPs_nil, asgPs_cons, isNop_nop, isNop_rv, isNop_v, isNop_c, isNop_bin, isNop_call, isNop_sub, isNop_bi, flatO, flatD, isTs, isT, objOk, isNonD, wipeE, cmpD, binD, biD, subD, slD, isDct, isLst, -List.length_flatMap, -List.map_drop, -List.map_take, need_presses_m ok (k := k - 1) (by omega) hx hl hp, played_m (k := k - 1) (by omega) hl, h, playD]
  | some q => simp [f29, IR.exec, ev, evs, evp, itM, setL, mkSlot, mdOf, frzE, retOk, isC, asgP_n, asgP_t, asgPs_nil, asgPs_cons, isNop_nop, isNop_rv, isNop_v, isNop_c, isNop_bin, isNop_call, isNop_sub, isNop_bi, flatO, flatD, isTs, isT, objOk, isNonD, wipeE, cmpD, binD, biD, subD, slD, isDct, isLst, -List.length_flatMap, -List.map_drop, -List.map_take, need_presses_m ok (k := k - 1) (by omega) hx hl hp, played_m (k := k - 1) (by omega) hl, h, playD, atI_1]
theorem pair_of_m (ok : RawOk R) (hk : 2 ≤ k) {x y : Str} (hx : x ∈ R.st) (hy : y ∈ R.st) : callM Γ tb k 30 [boxD R, .str x, .str y] s = .ok (pD (pairOf R x y)) s := by
  rw [run30 (by omega)]
  have h1 := idxD_strs (ok.ss _ hx) ok.ss hx
  have h2 := idxD_strs (ok.ss _ hy) ok.ss hy
  by_cases e : R.st.idxOf x ≤ R.st.idxOf y
  · simp [f30, IR.exec, ev, evs, evp, itM, setL, mkSlot, mdOf, frzE, retOk, isC, asgP_n, asgP_t, asgPs_nil, asgPs_cons, isNop_nop, isNop_rv, isNop_v, isNop_c, isNop_bin, isNop_call, isNop_sub, isNop_bi, flatO, flatD, isTs, isT, objOk, isNonD, wipeE, cmpD, binD, biD, subD, slD, isDct, isLst, -List.length_flatMap, -List.map_drop, -List.map_take, states_m (k := k - 1) (by omega), h1, h2, e, pairOf, pD]
  · simp [f30, IR.exec, ev, evs, evp, itM, setL, mkSlot, mdOf, frzE, retOk, isC, asgP_n, asgP_t, asgPs_nil, asgPs_cons, isNop_nop, isNop_rv, isNop_v, isNop_c, isNop_bin, isNop_call, isNop_sub, isNop_bi, flatO, flatD, isTs, isT, objOk, isNonD, wipeE, cmpD, binD, biD, subD, slD, isDct, isLst, -List.length_flatMap, -List.map_drop, -List.map_take, states_m (k := k - 1) (by omega), h1, h2, e, pairOf, pD]
end
end K94
end
section
set_option Elab.async false
set_option linter.all false
set_option maxRecDepth 100000
set_option maxHeartbeats 4100000
namespace K94
open L2 IR
open PySem (Str PyData)
theorem there_some {R : Raw} {s b : Str} (h : b ∈ thereAt R s) : ∃ w t, look R s b = some (w, t) := by
  have h := (List.mem_filter.mp h).2
  cases e : look R s b with
  | none => (rw [e] at h; cases h)
  | some q => exact ⟨q.1, q.2, rfl⟩
section
variable {k : Nat} {s : DS} {R : Raw}
/-- the innermost loop of first_twins -/
theorem ft_a (ok : RawOk R) (hk : 1 ≤ k) {st one : Str} (h1 : one ∈ thereAt R st) {twos : List Str} (h2 : ∀ b ∈ twos, b ∈ thereAt R st) {acc : List Tw} {x3 x4 x6 x7 x8 x9 : Slot} (hl : acc.length + twos.length ≤ lim) :
    Sat (forM (fun ρ s => IR.exec Γ (callM Γ tb k) true fuelW b32_2 ρ s) (.n 6) (twos.map .str) [.sh (boxD R), .own (.lst (acc.map twD)), .sh (.str st), x3, x4, .sh (.str one), x6, x7, x8, x9] s)
      (fun fl s' => s' = s ∧ ∃ x6 x8 x9, fl = .nx [.sh (boxD R), .own (.lst ((acc ++ twos.flatMap (twin1 R st one)).map twD)), .sh (.str st), x3, x4, .sh (.str one), x6, x7, x8, x9]) := by
  obtain ⟨w1, t1, e1⟩ := there_some h1
  refine forM_sat (fun pre ρ s' => s' = s ∧ ∃ x6 x8 x9, ρ = [.sh (boxD R), .own (.lst ((acc ++ pre.flatMap (twin1 R st one)).map twD)), .sh (.str st), x3, x4, .sh (.str one), x6, x7, x8, x9]) ⟨rfl, x6, x8, x9, by simp⟩ ?_ ?_
  · rintro pre two post ρ s' e ⟨q1, y6, y8, y9, q2⟩
    subst q1
    subst q2
    refine ⟨_, rfl, ?_⟩
    obtain ⟨w2, t2, e2⟩ := there_some (h2 two (by rw [e]; simp))
    have hw1 := (look_ok ok e1).2.2.1.s
    have hw2 := (look_ok ok e2).2.2.1.s
    have hlen : (acc ++ pre.flatMap (twin1 R st one)).length < lim := by
      have h3 := flatMap_len (xs := pre) (f := twin1 R st one) (c := 1) fun x _ => twin1_len R st one x
      have h4 := congrArg List.length e
      simp only [List.length_append, List.length_cons] at h4 ⊢
      omega
    rw [List.length_append] at hlen
    by_cases ew : w1 = w2
    · subst ew
      have ht : twin1 R st one two = [(st, one, two, t1, t2)] := by simp [twin1, e1, e2]
      simp [b32_2, IR.exec, ev, evs, evp, itM, setL, mkSlot, mdOf, frzE, retOk, isC, asgP_n, asgP_t, asgPs_nil, asgPs_cons, isNop_nop, isNop_rv, isNop_v, isNop_c, isNop_bin, isNop_call, isNop_sub, isNop_bi, flatO, flatD, isTs, isT, objOk, isNonD, wipeE, cmpD, binD, biD, subD, slD, isDct, isLst, -List.length_flatMap, -List.map_drop, -List.map_take, looked_m (k := k) (by omega), e1, e2, atI_0, atI_1, eqD_str hw1 hw1, ht, twD, hlen]
    · have ht : twin1 R st one two = [] := by simp [twin1, e1, e2, ew]
      simp [b32_2, IR.exec, ev, evs, evp, itM, setL, mkSlot, mdOf, frzE, retOk, isC, asgP_n, asgP_t, asgPs_nil, asgPs_cons, isNop_nop, isNop_rv, isNop_v, isNop_c, isNop_bin, isNop_call, isNop_sub, isNop_bi, flatO, flatD, isTs, isT, objOk, isNonD, wipeE, cmpD, binD, biD, subD, slD, isDct, isLst, -List.length_flatMap, -List.map_drop, -List.map_take, looked_m (k := k) (by omega), e1, e2, atI_0, atI_1, eqD_str hw1 hw2, ht, ew]
  · rintro ρ s' ⟨q1, y6, y8, y9, q2⟩
    subst q1
    subst q2
    exact ⟨rfl, y6, y8, y9, rfl⟩
theorem ft_b (ok : RawOk R) (hk : 1 ≤ k) {st : Str} {acc : List Tw} {x4 x5 x6 x7 x8 x9 : Slot} (hl : acc.length + 64 ≤ lim) :
    Sat (forM (fun ρ s => IR.exec Γ (callM Γ tb k) true fuelW b32_3 ρ s) (.t (.cons (.n 4) (.cons (.n 5) .nil))) ((thereAt R st).zipIdx.map fun q => .tup [.int q.2, .str q.1]) [.sh (boxD R), .own (.lst (acc.map twD)), .sh (.str st), .sh (.lst ((thereAt R st).map .str)), x4, x5, x6, x7, x8, x9] s)
      (fun fl s' => s' = s ∧ ∃ x4 x5 x6 x8 x9, fl = .nx [.sh (boxD R), .own (.lst ((acc ++ tw3 R st).map twD)), .sh (.str st), .sh (.lst ((thereAt R st).map .str)), x4, x5, x6, x7, x8, x9]) := by
  refine forM_sat (fun pre ρ s' => s' = s ∧ ∃ x4 x5 x6 x8 x9, ρ = [.sh (boxD R), .own (.lst ((acc ++ pre.flatMap (tw2 R st)).map twD)), .sh (.str st), .sh (.lst ((thereAt R st).map .str)), x4, x5, x6, x7, x8, x9]) ⟨rfl, x4, x5, x6, x8, x9, by simp⟩ ?_ ?_
  · rintro pre ⟨one, i⟩ post ρ s' e ⟨rfl, y4, y5, y6, y8, y9, rfl⟩
    refine ⟨_, rfl, ?_⟩
    obtain ⟨e1, e2⟩ := zipIdx_split e
    have h1 : one ∈ thereAt R st := by rw [e2]; simp
    have hpl : pre.length < 8 := by
      have h3 := there_len ok st
      have h4 := congrArg List.length e2
      simp at h4
      omega
    have hlen : (acc ++ pre.flatMap (tw2 R st)).length + ((thereAt R st).drop (i + 1)).length ≤ lim := by
      have h3 := flatMap_len (xs := pre) (f := tw2 R st) (c := 8) fun x _ => tw2_len ok st x
      have h4 := there_len ok st
      rw [List.length_append, List.length_drop]
      omega
    obtain ⟨fl, s2, e3, q1, z6, z8, z9, q2⟩ := sat_ex (ft_a (s := s') ok hk h1 (twos := (thereAt R st).drop (i + 1)) (fun b hb => List.mem_of_mem_drop hb) (x3 := .sh (.lst ((thereAt R st).map .str))) (x4 := .sh (.int i)) (x6 := y6) (x7 := x7) (x8 := y8) (x9 := y9) hlen)
    subst q1
    subst q2
    have hc : cutL ((thereAt R st).map D.str) (some ((i : Int) + 1)) none = ((thereAt R st).drop (i + 1)).map D.str := by
      rw [cutL_map, show (i : Int) + 1 = ((i + 1 : Nat) : Int) by simp, cut_from]
    simp only [b32_3, IR.exec, ev, evs, evp, itM, setL, mkSlot, mdOf, frzE, retOk, isC, asgP_n, asgP_t, asgPs_nil, asgPs_cons, isNop_nop, isNop_rv, isNop_v, isNop_c, isNop_bin, isNop_call, isNop_sub, isNop_bi, flatO, flatD, isTs, isT, objOk, isNonD, wipeE, cmpD, binD, biD, subD, slD, isDct, isLst, Bool.false_eq_true, and_self, if_false, if_true, bind_ok, of_some, onB_bl, boolO_bl, intO, List.getElem?_cons_succ, List.getElem?_cons_zero, List.set_cons_zero, List.set_cons_succ, sat_ok, aft_nx, aft_rt, aft_ct, aft_bk, Option.map_some, endO_rt, endO_nx, hc, e3]
    exact ⟨trivial, .sh (.int i), .sh (.str one), z6, z8, z9, by simp [List.append_assoc, tw2]⟩
  · rintro ρ s' ⟨q1, y4, y5, y6, y8, y9, q2⟩
    subst q1
    subst q2
    exact ⟨rfl, y4, y5, y6, y8, y9, rfl⟩
theorem first_twins_m (ok : RawOk R) (hk : 2 ≤ k) : callM Γ tb k 32 [boxD R] s = .ok (.lst ((firstTw R).map twD)) s := by
  rw [run32 (by omega)]
  have hs : Sat (forM (fun ρ s => IR.exec Γ (callM Γ tb (k - 1)) true fuelW b32_4 ρ s) (.n 2) (R.st.map .str) [.sh (boxD R), .own (.lst []), .no, .no, .no, .no, .no, .no, .no, .no] s)
      (fun fl s' => s' = s ∧ ∃ x2 x3 x4 x5 x6 x7 x8 x9, fl = .nx [.sh (boxD R), .own (.lst ((firstTw R).map twD)), x2, x3, x4, x5, x6, x7, x8, x9]) := by
    refine forM_sat (fun pre ρ s' => s' = s ∧ ∃ x2 x3 x4 x5 x6 x7 x8 x9, ρ = [.sh (boxD R), .own (.lst ((pre.flatMap (tw3 R)).map twD)), x2, x3, x4, x5, x6, x7, x8, x9]) ⟨rfl, .no, .no, .no, .no, .no, .no, .no, .no, rfl⟩ ?_ ?_
    · rintro pre st post ρ s' e ⟨q1, y2, y3, y4, y5, y6, y7, y8, y9, q2⟩
      subst q1
      subst q2
      refine ⟨_, rfl, ?_⟩
      have hlen : (pre.flatMap (tw3 R)).length + 64 ≤ lim := by
        have h1 := flatMap_len (xs := pre) (f := tw3 R) (c := 64) fun x _ => tw3_len ok x
        have h2 := ok.stl
        have h3 := congrArg List.length e
        simp only [List.length_append, List.length_cons] at h3
        refine le_lim ?_
        omega
      have hbl : R.bt.length ≤ lim := le_lim (by have := ok.btl; omega)
      have hlc : lcM (.n 7) [.sh (boxD R), .own (.lst ((pre.flatMap (tw3 R)).map twD)), .sh (.str st), y3, y4, y5, y6, .no, y8, y9] (fun ρ s => ev Γ (callM Γ tb (k - 1)) c32_1 ρ s) (fun ρ s => ev Γ (callM Γ tb (k - 1)) e32_0 ρ s) (R.bt.map .str) s'
          = .ok ((thereAt R st).map .str) s' := by
        refine lcM_pure (fun b => (look R st b).isSome) .str (fun b => [.sh (boxD R), .own (.lst ((pre.flatMap (tw3 R)).map twD)), .sh (.str st), y3, y4, y5, y6, .sh (.str b), y8, y9]) fun b hb => ⟨rfl, ?_, fun _ => ?_⟩
        · cases h : look R st b <;> simp [c32_1, IR.exec, ev, evs, evp, itM, setL, mkSlot, mdOf, frzE, retOk, isC, asgP_n, asgP_t, asgPs_nil, asgPs_cons, isNop_nop, isNop_rv, isNop_v, isNop_c, isNop_bin, isNop_call, isNop_sub, isNop_bi, flatO, flatD, isTs, isT, objOk, isNonD, wipeE, cmpD, binD, biD, subD, slD, isDct, isLst, -List.length_flatMap, -List.map_drop, -List.map_take, looked_m (k := k - 1) (by omega), h]
        · simp [e32_0, IR.exec, ev, evs, evp, itM, setL, mkSlot, mdOf, frzE, retOk, isC, asgP_n, asgP_t, asgPs_nil, asgPs_cons, isNop_nop, isNop_rv, isNop_v, isNop_c, isNop_bin, isNop_call, isNop_sub, isNop_bi, flatO, flatD, isTs, isT, objOk, isNonD, wipeE, cmpD, binD, biD, subD, slD, isDct, isLst, -List.length_flatMap, -List.map_drop, -List.map_take]
      obtain ⟨fl, s2, e3, q1, z4, z5, z6, z8, z9, q2⟩ := sat_ex (ft_b (s := s') (k := k - 1) ok (by omega) (st := st) (acc := pre.flatMap (tw3 R)) (x4 := y4) (x5 := y5) (x6 := y6) (x7 := y7) (x8 := y8) (x9 := y9) hlen)
      subst q1
      subst q2
      simp only [b32_4, IR.exec, ev, evs, evp, itM, setL, mkSlot, mdOf, frzE, retOk, isC, asgP_n, asgP_t, asgPs_nil, asgPs_cons, isNop_nop, isNop_rv, isNop_v, isNop_c, isNop_bin, isNop_call, isNop_sub, isNop_bi, flatO, flatD, isTs, isT, objOk, isNonD, wipeE, cmpD, binD, biD, subD, slD, isDct, isLst, Bool.false_eq_true, and_self, if_false, if_true, bind_ok, of_some, onB_bl, boolO_bl, intO, List.getElem?_cons_succ, List.getElem?_cons_zero, List.set_cons_zero, List.set_cons_succ, sat_ok, aft_nx, aft_rt, aft_ct, aft_bk, Option.map_some, endO_rt, endO_nx, evs, buttons_m (k := k - 1) (show 1 ≤ k - 1 by omega), mok_buttons, fr17, List.length_map, hbl, c32_1_nop, hlc, decide_true, Bool.and_self, and_self, enumD_map, e3]
      exact ⟨trivial, .sh (.str st), .sh (.lst ((thereAt R st).map .str)), z4, z5, z6, y7, z8, z9, by simp⟩
    · rintro ρ s' ⟨q1, x2, x3, x4, x5, x6, x7, x8, x9, q2⟩
      subst q1
      subst q2
      exact ⟨rfl, x2, x3, x4, x5, x6, x7, x8, x9, rfl⟩
  obtain ⟨fl, s2, e3, q1, z2, z3, z4, z5, z6, z7, z8, z9, q2⟩ := sat_ex hs
  subst q1
  subst q2
  simp [f32, IR.exec, ev, evs, evp, itM, setL, mkSlot, mdOf, frzE, retOk, isC, asgP_n, asgP_t, asgPs_nil, asgPs_cons, isNop_nop, isNop_rv, isNop_v, isNop_c, isNop_bin, isNop_call, isNop_sub, isNop_bi, flatO, flatD, isTs, isT, objOk, isNonD, wipeE, cmpD, binD, biD, subD, slD, isDct, isLst, -List.length_flatMap, -List.map_drop, -List.map_take, states_m (k := k - 1) (show 1 ≤ k - 1 by omega), e3, t32_5]
end
end K94
end
section
set_option Elab.async false
set_option linter.all false
set_option maxRecDepth 100000
set_option maxHeartbeats 4100000
namespace K94
open L2 IR
open PySem (Str PyData)
section
variable {k : Nat} {s : DS} {R : Raw}
/-- the innermost loop of next_twins -/
theorem nt_a (ok : RawOk R) (hk : 1 ≤ k) {st ot one : Str} {twos : List Str} {acc : List Nx} {x5 x6 x7 : Slot} (hl : acc.length + twos.length ≤ lim) :
    Sat (forM (fun ρ s => IR.exec Γ (callM Γ tb k) true fuelW b33_0 ρ s) (.n 5) (twos.map .str) [.sh (boxD R), .sh (.str st), .sh (.str ot), .own (.lst (acc.map nxD)), .sh (.str one), x5, x6, x7] s)
      (fun fl s' => s' = s ∧ ∃ x5 x6 x7, fl = .nx [.sh (boxD R), .sh (.str st), .sh (.str ot), .own (.lst ((acc ++ twos.flatMap (nx1 R st ot one)).map nxD)), .sh (.str one), x5, x6, x7]) := by
  refine forM_sat (fun pre ρ s' => s' = s ∧ ∃ x5 x6 x7, ρ = [.sh (boxD R), .sh (.str st), .sh (.str ot), .own (.lst ((acc ++ pre.flatMap (nx1 R st ot one)).map nxD)), .sh (.str one), x5, x6, x7]) ⟨rfl, x5, x6, x7, by simp⟩ ?_ ?_
  · rintro pre two post ρ s' e ⟨q1, y5, y6, y7, q2⟩
    subst q1
    subst q2
    refine ⟨_, rfl, ?_⟩
    have hlen : (acc ++ pre.flatMap (nx1 R st ot one)).length < lim := by
      have h3 := flatMap_len (xs := pre) (f := nx1 R st ot one) (c := 1) fun x _ => nx1_len R st ot one x
      have h4 := congrArg List.length e
      simp only [List.length_append, List.length_cons] at h4 ⊢
      omega
    rw [List.length_append] at hlen
    cases e1 : look R st one with
    | none =>
      have ht : nx1 R st ot one two = [] := by simp [nx1, e1]
      simp [b33_0, IR.exec, ev, evs, evp, itM, setL, mkSlot, mdOf, frzE, retOk, isC, asgP_n, asgP_t, asgPs_nil, asgPs_cons, isNop_nop, isNop_rv, isNop_v, isNop_c, isNop_bin, isNop_call, isNop_sub, isNop_bi, flatO, flatD, isTs, isT, objOk, isNonD, wipeE, cmpD, binD, biD, subD, slD, isDct, isLst, -List.length_flatMap, -List.map_drop, -List.map_take, looked_m (k := k) (by omega), e1, ht]
    | some q =>
      obtain ⟨w1, t1⟩ := q
      cases e2 : look R ot two with
      | none =>
        have ht : nx1 R st ot one two = [] := by simp [nx1, e1, e2]
        simp [b33_0, IR.exec, ev, evs, evp, itM, setL, mkSlot, mdOf, frzE, retOk, isC, asgP_n, asgP_t, asgPs_nil, asgPs_cons, isNop_nop, isNop_rv, isNop_v, isNop_c, isNop_bin, isNop_call, isNop_sub, isNop_bi, flatO, flatD, isTs, isT, objOk, isNonD, wipeE, cmpD, binD, biD, subD, slD, isDct, isLst, -List.length_flatMap, -List.map_drop, -List.map_take, looked_m (k := k) (by omega), e1, e2, ht]
      | some q =>
        obtain ⟨w2, t2⟩ := q
        have hw1 := (look_ok ok e1).2.2.1.s
        have hw2 := (look_ok ok e2).2.2.1.s
        by_cases ew : w1 = w2
        · subst ew
          have ht : nx1 R st ot one two = [(one, two, t1, t2)] := by simp [nx1, e1, e2]
          simp [b33_0, IR.exec, ev, evs, evp, itM, setL, mkSlot, mdOf, frzE, retOk, isC, asgP_n, asgP_t, asgPs_nil, asgPs_cons, isNop_nop, isNop_rv, isNop_v, isNop_c, isNop_bin, isNop_call, isNop_sub, isNop_bi, flatO, flatD, isTs, isT, objOk, isNonD, wipeE, cmpD, binD, biD, subD, slD, isDct, isLst, -List.length_flatMap, -List.map_drop, -List.map_take, looked_m (k := k) (by omega), e1, e2, atI_0, atI_1, eqD_str hw1 hw1, ht, nxD, hlen]
        · have ht : nx1 R st ot one two = [] := by simp [nx1, e1, e2, ew]
          simp [b33_0, IR.exec, ev, evs, evp, itM, setL, mkSlot, mdOf, frzE, retOk, isC, asgP_n, asgP_t, asgPs_nil, asgPs_cons, isNop_nop, isNop_rv, isNop_v, isNop_c, isNop_bin, isNop_call, isNop_sub, isNop_bi, flatO, flatD, isTs, isT, objOk, isNonD, wipeE, cmpD, binD, biD, subD, slD, isDct, isLst, -List.length_flatMap, -List.map_drop, -List.map_take, looked_m (k := k) (by omega), e1, e2, atI_0, atI_1, eqD_str hw1 hw2, ht, ew]
  · rintro ρ s' ⟨q1, y5, y6, y7, q2⟩
    subst q1
    subst q2
    exact ⟨rfl, y5, y6, y7, rfl⟩
theorem next_twins_m (ok : RawOk R) (hk : 2 ≤ k) (st ot : Str) : callM Γ tb k 33 [boxD R, .str st, .str ot] s = .ok (.lst ((nextTw R st ot).map nxD)) s := by
  rw [run33 (by omega)]
  have hs : Sat (forM (fun ρ s => IR.exec Γ (callM Γ tb (k - 1)) true fuelW b33_1 ρ s) (.n 4) (R.bt.map .str) [.sh (boxD R), .sh (.str st), .sh (.str ot), .own (.lst []), .no, .no, .no, .no] s)
      (fun fl s' => s' = s ∧ ∃ x4 x5 x6 x7, fl = .nx [.sh (boxD R), .sh (.str st), .sh (.str ot), .own (.lst ((nextTw R st ot).map nxD)), x4, x5, x6, x7]) := by
    refine forM_sat (fun pre ρ s' => s' = s ∧ ∃ x4 x5 x6 x7, ρ = [.sh (boxD R), .sh (.str st), .sh (.str ot), .own (.lst ((pre.flatMap (nx2 R st ot)).map nxD)), x4, x5, x6, x7]) ⟨rfl, .no, .no, .no, .no, rfl⟩ ?_ ?_
    · rintro pre one post ρ s' e ⟨q1, y4, y5, y6, y7, q2⟩
      subst q1
      subst q2
      refine ⟨_, rfl, ?_⟩
      have hlen : (pre.flatMap (nx2 R st ot)).length + R.bt.length ≤ lim := by
        have h1 := flatMap_len (xs := pre) (f := nx2 R st ot) (c := 8) fun x _ => nx2_len ok st ot x
        have h2 := ok.btl
        have h3 := congrArg List.length e
        simp only [List.length_append, List.length_cons] at h3
        refine le_lim ?_
        omega
      obtain ⟨fl, s2, e3, q1, z5, z6, z7, q2⟩ := sat_ex (nt_a (s := s') (k := k - 1) ok (by omega) (st := st) (ot := ot) (one := one) (twos := R.bt) (acc := pre.flatMap (nx2 R st ot)) (x5 := y5) (x6 := y6) (x7 := y7) hlen)
      subst q1
      subst q2
      simp only [b33_1, IR.exec, ev, evs, evp, itM, setL, mkSlot, mdOf, frzE, retOk, isC, asgP_n, asgP_t, asgPs_nil, asgPs_cons, isNop_nop, isNop_rv, isNop_v, isNop_c, isNop_bin, isNop_call, isNop_sub, isNop_bi, flatO, flatD, isTs, isT, objOk, isNonD, wipeE, cmpD, binD, biD, subD, slD, isDct, isLst, Bool.false_eq_true, and_self, if_false, if_true, bind_ok, of_some, onB_bl, boolO_bl, intO, List.getElem?_cons_succ, List.getElem?_cons_zero, List.set_cons_zero, List.set_cons_succ, sat_ok, aft_nx, aft_rt, aft_ct, aft_bk, Option.map_some, endO_rt, endO_nx, evs, buttons_m (k := k - 1) (show 1 ≤ k - 1 by omega), mok_buttons, e3]
      exact ⟨trivial, .sh (.str one), z5, z6, z7, by simp [nx2]⟩
    · rintro ρ s' ⟨q1, x4, x5, x6, x7, q2⟩
      subst q1
      subst q2
      exact ⟨rfl, x4, x5, x6, x7, rfl⟩
  obtain ⟨fl, s2, e3, q1, z4, z5, z6, z7, q2⟩ := sat_ex hs
  subst q1
  subst q2
  simp [f33, IR.exec, ev, evs, evp, itM, setL, mkSlot, mdOf, frzE, retOk, isC, asgP_n, asgP_t, asgPs_nil, asgPs_cons, isNop_nop, isNop_rv, isNop_v, isNop_c, isNop_bin, isNop_call, isNop_sub, isNop_bi, flatO, flatD, isTs, isT, objOk, isNonD, wipeE, cmpD, binD, biD, subD, slD, isDct, isLst, -List.length_flatMap, -List.map_drop, -List.map_take, buttons_m (k := k - 1) (show 1 ≤ k - 1 by omega), e3, t33_2]
end
end K94
end
section
set_option Elab.async false
set_option linter.all false
set_option maxRecDepth 100000
set_option maxHeartbeats 4100000
namespace K94
open L2 IR
open PySem (Str PyData)
section
variable {k : Nat} {s : DS} {R : Raw}
theorem pairs_behind_m (ok : RawOk R) (hk : 3 ≤ k) (p : Pr) : callM Γ tb k 35 [boxD R, pD p] s = .ok (.lst ((behind R p).map pD)) s := by
  rw [run35 (by omega)]
  have hs : Sat (forM (fun ρ s => IR.exec Γ (callM Γ tb (k - 1)) true fuelW b35_0 ρ s) (.t (.cons (.n 3) (.cons (.n 4) (.cons (.n 5) (.cons (.n 6) .nil))))) ((nextTw R p.1 p.2).map nxD) [.sh (boxD R), .sh (pD p), .own (.lst []), .no, .no, .no, .no] s)
      (fun fl s' => s' = s ∧ ∃ x3 x4 x5 x6, fl = .nx [.sh (boxD R), .sh (pD p), .own (.lst ((behind R p).map pD)), x3, x4, x5, x6]) := by
    refine forM_sat (fun pre ρ s' => s' = s ∧ ∃ x3 x4 x5 x6, ρ = [.sh (boxD R), .sh (pD p), .own (.lst (((pre.map (nxP R)).foldl addP []).map pD)), x3, x4, x5, x6]) ⟨rfl, .no, .no, .no, .no, rfl⟩ ?_ ?_
    · rintro pre q post ρ s' e ⟨q1, y3, y4, y5, y6, q2⟩
      subst q1
      subst q2
      refine ⟨_, rfl, ?_⟩
      have hq : q ∈ nextTw R p.1 p.2 := by rw [e]; simp
      have hqo := nextTw_ok ok hq
      have hacc : ∀ x ∈ (pre.map (nxP R)).foldl addP [], x.1 ∈ R.st ∧ x.2 ∈ R.st := fun x hx => by
        rcases mem_foldP.mp hx with h | h
        · cases h
        · (obtain ⟨y, hy, rfl⟩ := List.mem_map.mp h)
          have := nextTw_ok ok (q := y) (s := p.1) (t := p.2) (by rw [e]; simp [hy])
          exact pairOf_mem this.1 this.2
      have hnd : ((pre.map (nxP R)).foldl addP []).Nodup := nodup_foldP List.nodup_nil
      have hlen : ((pre.map (nxP R)).foldl addP []).length < lim := lt_lim (by have := prs_len ok hnd hacc; omega)
      have hin := inD_pairs (okP_of ok (pairOf_mem hqo.1 hqo.2)) fun x hx => okP_of ok (hacc x hx)
      generalize hA : (pre.map (nxP R)).foldl addP [] = A at *
      have hfold : ((pre ++ [q]).map (nxP R)).foldl addP [] = addP A (nxP R q) := by
        rw [List.map_append, List.foldl_append, hA]
        rfl
      rw [hfold]
      have hpo : ∀ s, callM Γ tb (k - 1) 30 [boxD R, .str q.2.2.1, .str q.2.2.2] s = .ok (pD (pairOf R q.2.2.1 q.2.2.2)) s := fun s => pair_of_m ok (by omega) hqo.1 hqo.2
      by_cases hm : pairOf R q.2.2.1 q.2.2.2 ∈ A
      · have ha : addP A (nxP R q) = A := by unfold addP nxP; rw [if_pos hm]
        rw [decide_eq_true hm] at hin
        simp [b35_0, IR.exec, ev, evs, evp, itM, setL, mkSlot, mdOf, frzE, retOk, isC, asgP_n, asgP_t, asgPs_nil, asgPs_cons, isNop_nop, isNop_rv, isNop_v, isNop_c, isNop_bin, isNop_call, isNop_sub, isNop_bi, flatO, flatD, isTs, isT, objOk, isNonD, wipeE, cmpD, binD, biD, subD, slD, isDct, isLst, -List.length_flatMap, -List.map_drop, -List.map_take, hpo, hin, ha]
      · have ha : addP A (nxP R q) = A ++ [nxP R q] := by unfold addP nxP; rw [if_neg hm]
        rw [decide_eq_false hm] at hin
        rw [ha]
        simp [b35_0, IR.exec, ev, evs, evp, itM, setL, mkSlot, mdOf, frzE, retOk, isC, asgP_n, asgP_t, asgPs_nil, asgPs_cons, isNop_nop, isNop_rv, isNop_v, isNop_c, isNop_bin, isNop_call, isNop_sub, isNop_bi, flatO, flatD, isTs, isT, objOk, isNonD, wipeE, cmpD, binD, biD, subD, slD, isDct, isLst, -List.length_flatMap, -List.map_drop, -List.map_take, hpo, hin, hlen, nxP]
    · rintro ρ s' ⟨q1, x3, x4, x5, x6, q2⟩
      subst q1
      subst q2
      exact ⟨rfl, x3, x4, x5, x6, rfl⟩
  obtain ⟨fl, s2, e3, q1, z3, z4, z5, z6, q2⟩ := sat_ex hs
  subst q1
  subst q2
  have e1 : subD (pD p) (.int 0) = some (.str p.1) := atI_0 _ _
  have e2 : subD (pD p) (.int 1) = some (.str p.2) := atI_1 _ _ _
  simp [f35, IR.exec, ev, evs, itM, mkSlot, mdOf, isC, retOk, e1, e2, next_twins_m ok (k := k - 1) (show 2 ≤ k - 1 by omega), e3, t35_1]
theorem first_pairs_m (ok : RawOk R) (hk : 3 ≤ k) : callM Γ tb k 36 [boxD R] s = .ok (.lst ((firstP R).map pD)) s := by
  rw [run36 (by omega)]
  have hs : Sat (forM (fun ρ s => IR.exec Γ (callM Γ tb (k - 1)) true fuelW b36_0 ρ s) (.t (.cons (.n 2) (.cons (.n 3) (.cons (.n 4) (.cons (.n 5) (.cons (.n 6) .nil)))))) ((firstTw R).map twD) [.sh (boxD R), .own (.lst []), .no, .no, .no, .no, .no] s)
      (fun fl s' => s' = s ∧ ∃ x2 x3 x4 x5 x6, fl = .nx [.sh (boxD R), .own (.lst ((firstP R).map pD)), x2, x3, x4, x5, x6]) := by
    refine forM_sat (fun pre ρ s' => s' = s ∧ ∃ x2 x3 x4 x5 x6, ρ = [.sh (boxD R), .own (.lst (((pre.map (twP R)).foldl addP []).map pD)), x2, x3, x4, x5, x6]) ⟨rfl, .no, .no, .no, .no, .no, rfl⟩ ?_ ?_
    · rintro pre q post ρ s' e ⟨q1, y2, y3, y4, y5, y6, q2⟩
      subst q1
      subst q2
      refine ⟨_, rfl, ?_⟩
      have hq : q ∈ firstTw R := by rw [e]; simp
      have hqo := (firstTw_ok ok hq).2.2.2
      have hacc : ∀ x ∈ (pre.map (twP R)).foldl addP [], x.1 ∈ R.st ∧ x.2 ∈ R.st := fun x hx => by
        rcases mem_foldP.mp hx with h | h
        · cases h
        · (obtain ⟨y, hy, rfl⟩ := List.mem_map.mp h)
          have := (firstTw_ok ok (q := y) (by rw [e]; simp [hy])).2.2.2
          exact pairOf_mem this.1 this.2
      have hnd : ((pre.map (twP R)).foldl addP []).Nodup := nodup_foldP List.nodup_nil
      have hlen : ((pre.map (twP R)).foldl addP []).length < lim := lt_lim (by have := prs_len ok hnd hacc; omega)
      have hin := inD_pairs (okP_of ok (pairOf_mem hqo.1 hqo.2)) fun x hx => okP_of ok (hacc x hx)
      generalize hA : (pre.map (twP R)).foldl addP [] = A at *
      have hfold : ((pre ++ [q]).map (twP R)).foldl addP [] = addP A (twP R q) := by
        rw [List.map_append, List.foldl_append, hA]
        rfl
      rw [hfold]
      have hpo : ∀ s, callM Γ tb (k - 1) 30 [boxD R, .str q.2.2.2.1, .str q.2.2.2.2] s = .ok (pD (pairOf R q.2.2.2.1 q.2.2.2.2)) s := fun s => pair_of_m ok (by omega) hqo.1 hqo.2
      by_cases hm : pairOf R q.2.2.2.1 q.2.2.2.2 ∈ A
      · have ha : addP A (twP R q) = A := by unfold addP twP; rw [if_pos hm]
        rw [decide_eq_true hm] at hin
        simp [b36_0, IR.exec, ev, evs, evp, itM, setL, mkSlot, mdOf, frzE, retOk, isC, asgP_n, asgP_t, asgPs_nil, asgPs_cons, isNop_nop, isNop_rv, isNop_v, isNop_c, isNop_bin, isNop_call, isNop_sub, isNop_bi, flatO, flatD, isTs, isT, objOk, isNonD, wipeE, cmpD, binD, biD, subD, slD, isDct, isLst, -List.length_flatMap, -List.map_drop, -List.map_take, hpo, hin, ha]
      · have ha : addP A (twP R q) = A ++ [twP R q] := by unfold addP twP; rw [if_neg hm]
        rw [decide_eq_false hm] at hin
        rw [ha]
        simp [b36_0, IR.exec, ev, evs, evp, itM, setL, mkSlot, mdOf, frzE, retOk, isC, asgP_n, asgP_t, asgPs_nil, asgPs_cons, isNop_nop, isNop_rv, isNop_v, isNop_c, isNop_bin, isNop_call, isNop_sub, isNop_bi, flatO, flatD, isTs, isT, objOk, isNonD, wipeE, cmpD, binD, biD, subD, slD, isDct, isLst, -List.length_flatMap, -List.map_drop, -List.map_take, hpo, hin, hlen, twP]
    · rintro ρ s' ⟨q1, x2, x3, x4, x5, x6, q2⟩
      subst q1
      subst q2
      exact ⟨rfl, x2, x3, x4, x5, x6, rfl⟩
  obtain ⟨fl, s2, e3, q1, z2, z3, z4, z5, z6, q2⟩ := sat_ex hs
  subst q1
  subst q2
  simp [f36, IR.exec, ev, evs, evp, itM, setL, mkSlot, mdOf, frzE, retOk, isC, asgP_n, asgP_t, asgPs_nil, asgPs_cons, isNop_nop, isNop_rv, isNop_v, isNop_c, isNop_bin, isNop_call, isNop_sub, isNop_bi, flatO, flatD, isTs, isT, objOk, isNonD, wipeE, cmpD, binD, biD, subD, slD, isDct, isLst, -List.length_flatMap, -List.map_drop, -List.map_take, first_twins_m ok (k := k - 1) (show 2 ≤ k - 1 by omega), e3, t36_1]
end
end K94
end
section
set_option Elab.async false
set_option linter.all false
set_option maxRecDepth 100000
set_option maxHeartbeats 4100000
namespace K94
open L2 IR
open PySem (Str PyData)
theorem fuel_big : 1000 < fuelW := by decide
section
variable {k : Nat} {s : DS} {R : Raw}
structure MetI (R : Raw) (found : List Pr) (at_ : Nat) : Prop where
  nd : found.Nodup
  re : ∀ p ∈ found, Reach R p
  fi : ∀ p ∈ firstP R, p ∈ found
  cl : ∀ i < at_, ∀ p, found[i]? = some p → ∀ q ∈ behind R p, q ∈ found
  le : at_ ≤ found.length
theorem met_pairs_m (ok : RawOk R) (hk : 4 ≤ k) : ∃ ms : List Pr, callM Γ tb k 37 [boxD R] s = .ok (.lst (ms.map pD)) s ∧ ms.Nodup ∧ ∀ p, p ∈ ms ↔ Reach R p := by
  have hs : Sat (whM (fun ρ s => ev Γ (callM Γ tb (k - 1)) w37_0 ρ s) (fun ρ s => IR.exec Γ (callM Γ tb (k - 1)) true fuelW b37_3 ρ s) fuelW [.sh (boxD R), .own (.lst ((firstP R).map pD)), .sh (.int 0), .no] s)
      (fun fl s' => s' = s ∧ ∃ ms n x3, fl = .nx [.sh (boxD R), .own (.lst (ms.map pD)), .sh (.int n), x3] ∧ MetI R ms ms.length) := by
    refine whM_sat (fun m ρ s' => s' = s ∧ ∃ ms n x3, ρ = [.sh (boxD R), .own (.lst (ms.map pD)), .sh (.int (n : Nat)), x3] ∧ MetI R ms n ∧ m = 64 - n) 64 (by have := fuel_big; omega) ⟨rfl, firstP R, 0, .no, rfl, ⟨nodup_dedP, fun p h => .first h, fun p h => h, fun i h => by omega, Nat.zero_le _⟩, rfl⟩ ?_
    rintro m ρ s' ⟨q1, ms, n, x3, q2, I, hm⟩
    subst q1
    subst q2
    have hms : ms.length ≤ 64 := prs_len ok I.nd fun p hp => (I.re p hp).ok ok
    refine ⟨decide (n < ms.length), by simp [w37_0, IR.exec, ev, evs, evp, itM, setL, mkSlot, mdOf, frzE, retOk, isC, asgP_n, asgP_t, asgPs_nil, asgPs_cons, isNop_nop, isNop_rv, isNop_v, isNop_c, isNop_bin, isNop_call, isNop_sub, isNop_bi, flatO, flatD, isTs, isT, objOk, isNonD, wipeE, cmpD, binD, biD, subD, slD, isDct, isLst, -List.length_flatMap, -List.map_drop, -List.map_take], fun ht => ?_, fun ht => ?_⟩
    · have hn : n < ms.length := of_decide_eq_true ht
      have hg : ms[n]? = some ms[n] := List.getElem?_eq_getElem hn
      generalize ms[n] = p at hg
      have hsub : atI (ms.map pD) ((n : Nat) : Int) = some (pD p) := by
        rw [atI_map, atI_nat hg]
        rfl
      have hpb := fun s => pairs_behind_m (s := s) ok (k := k - 1) (by omega) p
      have hlc : lcM (.n 3) [.sh (boxD R), .own (.lst (ms.map pD)), .sh (.int (n : Nat)), .no] (fun ρ s => ev Γ (callM Γ tb (k - 1)) c37_2 ρ s) (fun ρ s => ev Γ (callM Γ tb (k - 1)) e37_1 ρ s) ((behind R p).map pD) s'
          = .ok (((behind R p).filter fun q => decide (¬ q ∈ ms)).map pD) s' := by
        refine lcM_pure (fun q => decide (¬ q ∈ ms)) pD (fun q => [.sh (boxD R), .own (.lst (ms.map pD)), .sh (.int (n : Nat)), .sh (pD q)]) fun q hq => ⟨rfl, ?_, fun _ => ?_⟩
        · have hin := inD_pairs (okP_of ok (behind_ok ok hq)) fun x hx => okP_of ok ((I.re x hx).ok ok)
          by_cases h : q ∈ ms
          · rw [decide_eq_true h] at hin
            simp [c37_2, IR.exec, ev, evs, evp, itM, setL, mkSlot, mdOf, frzE, retOk, isC, asgP_n, asgP_t, asgPs_nil, asgPs_cons, isNop_nop, isNop_rv, isNop_v, isNop_c, isNop_bin, isNop_call, isNop_sub, isNop_bi, flatO, flatD, isTs, isT, objOk, isNonD, wipeE, cmpD, binD, biD, subD, slD, isDct, isLst, -List.length_flatMap, -List.map_drop, -List.map_take, hin, h]
          · rw [decide_eq_false h] at hin
            simp [c37_2, IR.exec, ev, evs, evp, itM, setL, mkSlot, mdOf, frzE, retOk, isC, asgP_n, asgP_t, asgPs_nil, asgPs_cons, isNop_nop, isNop_rv, isNop_v, isNop_c, isNop_bin, isNop_call, isNop_sub, isNop_bi, flatO, flatD, isTs, isT, objOk, isNonD, wipeE, cmpD, binD, biD, subD, slD, isDct, isLst, -List.length_flatMap, -List.map_drop, -List.map_take, hin, h]
        · simp [e37_1, IR.exec, ev, evs, evp, itM, setL, mkSlot, mdOf, frzE, retOk, isC, asgP_n, asgP_t, asgPs_nil, asgPs_cons, isNop_nop, isNop_rv, isNop_v, isNop_c, isNop_bin, isNop_call, isNop_sub, isNop_bi, flatO, flatD, isTs, isT, objOk, isNonD, wipeE, cmpD, binD, biD, subD, slD, isDct, isLst, -List.length_flatMap, -List.map_drop, -List.map_take]
      have hbl : (behind R p).length ≤ 64 := prs_len ok nodup_dedP fun q hq => behind_ok ok hq
      have hl1 : (behind R p).length ≤ lim := le_lim (by omega)
      generalize hN : (behind R p).filter (fun q => decide (¬ q ∈ ms)) = new at *
      have hnew : ∀ q, q ∈ new ↔ q ∈ behind R p ∧ ¬ q ∈ ms := fun q => by
        rw [← hN, List.mem_filter, decide_eq_true_eq]
      have hnl : new.length ≤ 64 := by rw [← hN]; exact Nat.le_trans (List.length_filter_le _ _) hbl
      have hl2 : ms.length + new.length ≤ lim := le_lim (by omega)
      have hp : p ∈ ms := List.mem_of_getElem? hg
      have I2 : MetI R (ms ++ new) (n + 1) := {
        nd := by
          rw [List.nodup_append]
          refine ⟨I.nd, hN ▸ List.Pairwise.filter _ (nodup_dedP (xs := (nextTw R p.1 p.2).map (nxP R))), fun a ha b hb e => ?_⟩
          subst e
          exact ((hnew a).mp hb).2 ha
        re := fun q hq => by
          rcases List.mem_append.mp hq with h | h
          · exact I.re q h
          · exact .next (I.re p hp) ((hnew q).mp h).1
        fi := fun q hq => List.mem_append_left _ (I.fi q hq)
        cl := fun i hi x hx q hq => by
          by_cases hin : i < n
          · rw [List.getElem?_append_left (by omega)] at hx
            exact List.mem_append_left _ (I.cl i hin x hx q hq)
          · obtain rfl : i = n := by omega
            rw [List.getElem?_append_left hn, hg] at hx
            cases hx
            by_cases h : q ∈ ms
            · exact List.mem_append_left _ h
            · exact List.mem_append_right _ ((hnew q).mpr ⟨hq, h⟩)
        le := by rw [List.length_append]; omega }
      simp only [b37_3, IR.exec, ev, evs, evp, itM, setL, mkSlot, mdOf, frzE, retOk, isC, asgP_n, asgP_t, asgPs_nil, asgPs_cons, isNop_nop, isNop_rv, isNop_v, isNop_c, isNop_bin, isNop_call, isNop_sub, isNop_bi, flatO, flatD, isTs, isT, objOk, isNonD, wipeE, cmpD, binD, biD, subD, slD, isDct, isLst, Bool.false_eq_true, and_self, if_false, if_true, bind_ok, of_some, onB_bl, boolO_bl, intO, List.getElem?_cons_succ, List.getElem?_cons_zero, List.set_cons_zero, List.set_cons_succ, sat_ok, aft_nx, aft_rt, aft_ct, aft_bk, Option.map_some, endO_rt, endO_nx, hsub, hpb, evs, fl35, c37_2_nop, List.length_map, hl1, hl2, hlc]
      exact ⟨63 - n, by omega, trivial, ms ++ new, n + 1, x3, by simp, I2, by omega⟩
    · have hn : ¬ n < ms.length := of_decide_eq_false ht
      have := I.le
      obtain rfl : n = ms.length := by omega
      exact ⟨rfl, ms, _, x3, rfl, I⟩
  obtain ⟨fl, s2, e3, q1, ms, n, x3, q2, I⟩ := sat_ex hs
  subst q1
  subst q2
  refine ⟨ms, ?_, I.nd, fun p => ⟨I.re p, fun h => ?_⟩⟩
  · rw [run37 (by omega)]
    simp [f37, IR.exec, ev, evs, evp, itM, setL, mkSlot, mdOf, frzE, retOk, isC, asgP_n, asgP_t, asgPs_nil, asgPs_cons, isNop_nop, isNop_rv, isNop_v, isNop_c, isNop_bin, isNop_call, isNop_sub, isNop_bi, flatO, flatD, isTs, isT, objOk, isNonD, wipeE, cmpD, binD, biD, subD, slD, isDct, isLst, -List.length_flatMap, -List.map_drop, -List.map_take, first_pairs_m ok (k := k - 1) (show 3 ≤ k - 1 by omega), t37_4, e3]
  · induction h with
    | first h => exact I.fi _ h
    | next h hq ih =>
      obtain ⟨i, hi⟩ := List.mem_iff_getElem?.mp ih
      (have := (List.getElem?_eq_some_iff.mp hi).1)
      exact I.cl i this _ hi _ hq
end
end K94
end
section
set_option Elab.async false
set_option linter.all false
set_option maxRecDepth 100000
set_option maxHeartbeats 4100000
namespace K94
open L2 IR
open PySem (Str PyData)
section
variable {k : Nat} {s : DS} {R : Raw}
/-- the loop that ranks what is ready -/
theorem pl_a (ok : RawOk R) (hk : 4 ≤ k) {rdy : List Pr} {rk : Rk} (I : RkI R rk) (hn : rdy.Nodup) (h1 : ∀ p ∈ rdy, Reach R p ∧ ¬ p ∈ rk.map (·.1) ∧ ∀ q ∈ behind R p, q ∈ rk.map (·.1)) {x1 x2 x4 x5 : Slot} :
    Sat (forM (fun ρ s => IR.exec Γ (callM Γ tb k) false fuelW b38_5 ρ s) (.n 4) (rdy.map pD) [.sh (boxD R), x1, x2, .own (.dct true (rkD rk)), x4, x5] s)
      (fun fl s' => s' = s ∧ ∃ rk' x4, fl = .nx [.sh (boxD R), x1, x2, .own (.dct true (rkD rk')), x4, x5] ∧ RkI R rk' ∧ ∀ p, p ∈ rk'.map (·.1) ↔ p ∈ rk.map (·.1) ∨ p ∈ rdy) := by
  refine forM_sat (fun pre ρ s' => s' = s ∧ ∃ rk' x4, ρ = [.sh (boxD R), x1, x2, .own (.dct true (rkD rk')), x4, x5] ∧ RkI R rk' ∧ ∀ p, p ∈ rk'.map (·.1) ↔ p ∈ rk.map (·.1) ∨ p ∈ pre) ⟨rfl, rk, x4, rfl, I, fun p => by simp⟩ ?_ ?_
  · rintro pre p post ρ s' e ⟨q1, rk', y4, q2, J, hJ⟩
    subst q1
    subst q2
    refine ⟨_, rfl, ?_⟩
    obtain ⟨hr, hp0, hb⟩ := h1 p (by rw [e]; simp)
    have hp : ¬ p ∈ rk'.map (·.1) := fun h => by
      rcases (hJ p).mp h with h | h
      · exact hp0 h
      · rw [e, List.nodup_append] at hn
        exact hn.2.2 p h p (List.mem_cons_self ..) rfl
    have hb' : ∀ q ∈ behind R p, ∃ r, rget rk' q = some r := fun q hq => rget_some ((hJ q).mpr (.inl (hb q hq)))
    have hlc : lcM (.n 5) [.sh (boxD R), x1, x2, .own (.dct true (rkD rk')), .sh (pD p), .no] (fun ρ s => .ok (.bl true) s) (fun ρ s => ev Γ (callM Γ tb k) e38_4 ρ s) ((behind R p).map pD) s'
        = .ok ((behind R p).map fun q => .int ((rget rk' q).getD 0)) s' := by
      refine lcM_map _ (fun q => [.sh (boxD R), x1, x2, .own (.dct true (rkD rk')), .sh (pD p), .sh (pD q)]) fun q hq => ⟨rfl, ?_⟩
      obtain ⟨r, hr⟩ := hb' q hq
      simp [e38_4, IR.exec, ev, evs, evp, itM, setL, mkSlot, mdOf, frzE, retOk, isC, asgP_n, asgP_t, asgPs_nil, asgPs_cons, isNop_nop, isNop_rv, isNop_v, isNop_c, isNop_bin, isNop_call, isNop_sub, isNop_bi, flatO, flatD, isTs, isT, objOk, isNonD, wipeE, cmpD, binD, biD, subD, slD, isDct, isLst, -List.length_flatMap, -List.map_drop, -List.map_take, dget_rk, hr]
    obtain ⟨m, hm, hm1, hm2⟩ := maxL_ok (-1) ((behind R p).map fun q => (rget rk' q).getD 0)
    have hm0 : -1 ≤ m := hm2 (-1) (List.mem_cons_self ..)
    have K : RkI R (rk' ++ [(p, m + 1)]) := by
      refine J.add hp hr (by omega) (fun q hq => ?_) ?_
      · obtain ⟨r, hr⟩ := hb' q hq
        refine ⟨r, rget_mem hr, ?_⟩
        have := hm2 r (List.mem_cons_of_mem _ (List.mem_map.mpr ⟨q, hq, by rw [hr]; rfl⟩))
        omega
      · rcases List.mem_cons.mp hm1 with h | h
        · exact .inl (by omega)
        · obtain ⟨q, hq, h2⟩ := List.mem_map.mp h
          obtain ⟨r, hr⟩ := hb' q hq
          rw [hr] at h2
          refine .inr ⟨q, hq, ?_⟩
          have h3 : r = m := h2
          have := rget_mem hr
          rw [h3] at this
          simpa using this
    have hll : (rkD rk').length < lim := lt_lim (by have := J.len ok; unfold rkD; rw [List.length_map]; omega)
    have hbl : (behind R p).length ≤ 64 := prs_len ok nodup_dedP fun q hq => behind_ok ok hq
    have hbl1 : (behind R p).length ≤ lim := le_lim (by omega)
    have hbl2 : 1 + (behind R p).length ≤ lim := le_lim (by omega)
    have hpb := fun s => pairs_behind_m (s := s) ok (k := k) (by omega) p
    have hints : intsOf (D.int (-1) :: (behind R p).map fun q => D.int ((rget rk' q).getD 0)) = some (-1 :: (behind R p).map fun q => (rget rk' q).getD 0) := by
      rw [intsOf, intsOf_map]
      rfl
    simp only [b38_5, IR.exec, ev, evs, evp, itM, setL, mkSlot, mdOf, frzE, retOk, isC, asgP_n, asgP_t, asgPs_nil, asgPs_cons, isNop_nop, isNop_rv, isNop_v, isNop_c, isNop_bin, isNop_call, isNop_sub, isNop_bi, flatO, flatD, isTs, isT, objOk, isNonD, wipeE, cmpD, binD, biD, subD, slD, isDct, isLst, Bool.false_eq_true, and_self, if_false, if_true, bind_ok, of_some, onB_bl, boolO_bl, intO, List.getElem?_cons_succ, List.getElem?_cons_zero, List.set_cons_zero, List.set_cons_succ, sat_ok, aft_nx, aft_rt, aft_ct, aft_bk, Option.map_some, endO_rt, endO_nx, List.length_map, fl35, hpb, hbl1, hlc, List.length_cons, List.length_nil, Nat.zero_add, hbl2, List.cons_append, List.nil_append, hints, hm, keyOf_pD, kyKind_P, hll, true_and, and_self, dput_rk _ hp, Int.reduceNeg, lim1, Nat.zero_le, if_true]
    refine ⟨rk' ++ [(p, m + 1)], _, rfl, K, fun q => ?_⟩
    rw [List.map_append, List.mem_append, hJ, List.mem_append]
    simp [or_assoc]
  · rintro ρ s' ⟨q1, rk', y4, q2, J, hJ⟩
    subst q1
    subst q2
    exact ⟨rfl, rk', y4, rfl, J, hJ⟩
structure PlI (R : Raw) (ms rdy left : List Pr) (rk : Rk) : Prop where
  rki : RkI R rk
  nd : left.Nodup
  sub : ∀ p ∈ left, p ∈ ms
  dis : ∀ p ∈ left, ¬ p ∈ rk.map (·.1)
  all : ∀ p ∈ ms, p ∈ left ∨ p ∈ rk.map (·.1)
  stk : rdy = [] → ∀ p ∈ left, ∃ q ∈ behind R p, ¬ q ∈ rk.map (·.1)
theorem peeled_m (ok : RawOk R) (hk : 5 ≤ k) : ∃ (ms left : List Pr) (rk : Rk), callM Γ tb k 38 [boxD R] s = .ok (.tup [.dct true (rkD rk), .lst (left.map pD)]) s ∧ (∀ p, p ∈ ms ↔ Reach R p) ∧ PlI R ms [] left rk := by
  obtain ⟨ms, hms, hnd, hre⟩ := met_pairs_m (s := s) ok (k := k - 1) (by omega)
  have hs : Sat (whM (fun ρ s => ev Γ (callM Γ tb (k - 1)) w38_0 ρ s) (fun ρ s => IR.exec Γ (callM Γ tb (k - 1)) false fuelW b38_9 ρ s) fuelW [.sh (boxD R), .sh (.lst (ms.map pD)), .sh (.lst (ms.map pD)), .own (.dct true []), .no, .no] s)
      (fun fl s' => s' = s ∧ ∃ left rk x1 x2 x4 x5, fl = .nx [.sh (boxD R), x1, x2, .own (.dct true (rkD rk)), x4, x5] ∧ (x2 = .sh (.lst (left.map pD)) ∨ x2 = .own (.lst (left.map pD))) ∧ PlI R ms [] left rk) := by
    have hl0 : ms.length ≤ 64 := prs_len ok hnd fun p hp => ((hre p).mp hp).ok ok
    refine whM_sat (fun m ρ s' => s' = s ∧ ∃ rdy left rk x2 x4 x5, ρ = [.sh (boxD R), .sh (.lst (rdy.map pD)), x2, .own (.dct true (rkD rk)), x4, x5] ∧ (x2 = .sh (.lst (left.map pD)) ∨ x2 = .own (.lst (left.map pD))) ∧ PlI R ms rdy left rk ∧ (∀ p ∈ rdy, Reach R p) ∧ m = if rdy = [] then 0 else left.length + 1)
      (if ms = [] then 0 else ms.length + 1) (by have := fuel_big; split <;> omega) ⟨rfl, ms, ms, [], _, .no, .no, rfl, .inl rfl, ⟨RkI.nil R, hnd, fun p h => h, fun p _ => by simp, fun p h => .inl h, fun e p h => by rw [e] at h; cases h⟩, fun p h => (hre p).mp h, rfl⟩ ?_
    rintro m ρ s' ⟨q1, rdy, left, rk, x2, x4, x5, q2, hx2, I, hrr, hm⟩
    subst q1
    subst q2
    have hlp : ∀ p ∈ left, Reach R p := fun p hp => (hre p).mp (I.sub p hp)
    have hll : left.length ≤ 64 := prs_len ok I.nd fun p hp => (hlp p hp).ok ok
    have hll1 : left.length ≤ lim := le_lim (by omega)
    have hnil := eqD_pairs_nil (xs := rdy) fun q hq => okP_of ok ((hrr q hq).ok ok)
    refine ⟨!rdy.isEmpty, by simp [w38_0, IR.exec, ev, evs, evp, itM, setL, mkSlot, mdOf, frzE, retOk, isC, asgP_n, asgP_t, asgPs_nil, asgPs_cons, isNop_nop, isNop_rv, isNop_v, isNop_c, isNop_bin, isNop_call, isNop_sub, isNop_bi, flatO, flatD, isTs, isT, objOk, isNonD, wipeE, cmpD, binD, biD, subD, slD, isDct, isLst, -List.length_flatMap, -List.map_drop, -List.map_take, hnil], fun ht => ?_, fun ht => ?_⟩
    · have hrd : rdy ≠ [] := by simpa using ht
      rw [if_neg hrd] at hm
      have hev : ∀ (y1 y3 y4 y5 : Slot) (s : DS), ev Γ (callM Γ tb (k - 1)) (.rv 2) [.sh (boxD R), y1, x2, y3, y4, y5] s = .ok (.lst (left.map pD)) s := fun y1 y3 y4 y5 s => by
        rcases hx2 with rfl | rfl <;> simp [ev]
      have hlc : lcM (.n 4) [.sh (boxD R), .sh (.lst (rdy.map pD)), x2, .own (.dct true (rkD rk)), .no, x5] (fun ρ s => ev Γ (callM Γ tb (k - 1)) c38_3 ρ s) (fun ρ s => ev Γ (callM Γ tb (k - 1)) e38_2 ρ s) (left.map pD) s'
          = .ok ((left.filter fun p => (behind R p).all fun q => decide (q ∈ rk.map (·.1))).map pD) s' := by
        refine lcM_pure (enc := pD) (xs := left) (p := .n 4) (ρ := [.sh (boxD R), .sh (.lst (rdy.map pD)), x2, .own (.dct true (rkD rk)), .no, x5]) (fun p => (behind R p).all fun q => decide (q ∈ rk.map (·.1))) pD (fun p => [.sh (boxD R), .sh (.lst (rdy.map pD)), x2, .own (.dct true (rkD rk)), .sh (pD p), x5]) fun p hp => ⟨rfl, ?_, fun _ => ?_⟩
        · have hlc2 : lcM (.n 5) [.sh (boxD R), .sh (.lst (rdy.map pD)), x2, .own (.dct true (rkD rk)), .sh (pD p), .no] (fun ρ s => .ok (.bl true) s) (fun ρ s => ev Γ (callM Γ tb (k - 1)) e38_1 ρ s) ((behind R p).map pD) s'
              = .ok ((behind R p).map fun q => .bl (decide (q ∈ rk.map (·.1)))) s' := by
            refine lcM_map _ (fun q => [.sh (boxD R), .sh (.lst (rdy.map pD)), x2, .own (.dct true (rkD rk)), .sh (pD p), .sh (pD q)]) fun q hq => ⟨rfl, ?_⟩
            simp [e38_1, IR.exec, ev, cmpD, inD_rk]
          have hbl : (behind R p).length ≤ 64 := prs_len ok nodup_dedP fun q hq => behind_ok ok hq
          have hbl1 : (behind R p).length ≤ lim := le_lim (by omega)
          have hpb := fun s => pairs_behind_m (s := s) ok (k := k - 1) (by omega) p
          simp only [c38_3, IR.exec, ev, evs, evp, itM, setL, mkSlot, mdOf, frzE, retOk, isC, asgP_n, asgP_t, asgPs_nil, asgPs_cons, isNop_nop, isNop_rv, isNop_v, isNop_c, isNop_bin, isNop_call, isNop_sub, isNop_bi, flatO, flatD, isTs, isT, objOk, isNonD, wipeE, cmpD, binD, biD, subD, slD, isDct, isLst, Bool.false_eq_true, and_self, if_false, if_true, bind_ok, of_some, onB_bl, boolO_bl, intO, List.getElem?_cons_succ, List.getElem?_cons_zero, List.set_cons_zero, List.set_cons_succ, sat_ok, aft_nx, aft_rt, aft_ct, aft_bk, Option.map_some, endO_rt, endO_nx, evs, fl35, hpb, List.length_map, hbl1, hlc2, blsOf_map, List.all_map]
          rfl
        · simp [e38_2, ev]
      generalize hN : left.filter (fun p => (behind R p).all fun q => decide (q ∈ rk.map (·.1))) = new at *
      have hnew : ∀ p, p ∈ new ↔ p ∈ left ∧ ∀ q ∈ behind R p, q ∈ rk.map (·.1) := fun p => by
        rw [← hN, List.mem_filter, List.all_eq_true]
        simp only [decide_eq_true_eq]
      have hnn : new.Nodup := by rw [← hN]; exact List.Pairwise.filter _ I.nd
      obtain ⟨fl, s2, e3, q1, rk', y4, q2, J, hJ⟩ := sat_ex (pl_a (s := s') (k := k - 1) ok (by omega) (rdy := new) I.rki hnn (fun p hp => ⟨hlp p ((hnew p).mp hp).1, I.dis p ((hnew p).mp hp).1, ((hnew p).mp hp).2⟩) (x1 := .sh (.lst (new.map pD))) (x2 := x2) (x4 := x4) (x5 := x5))
      subst q1
      subst q2
      have hnp : ∀ x ∈ new, okP x := fun x hx => okP_of ok ((hlp x ((hnew x).mp hx).1).ok ok)
      have hlc3 : lcM (.n 4) [.sh (boxD R), .sh (.lst (new.map pD)), x2, .own (.dct true (rkD rk')), .no, x5] (fun ρ s => ev Γ (callM Γ tb (k - 1)) c38_7 ρ s) (fun ρ s => ev Γ (callM Γ tb (k - 1)) e38_6 ρ s) (left.map pD) s2
          = .ok ((left.filter fun p => decide (¬ p ∈ new)).map pD) s2 := by
        refine lcM_pure (fun p => decide (¬ p ∈ new)) pD (fun p => [.sh (boxD R), .sh (.lst (new.map pD)), x2, .own (.dct true (rkD rk')), .sh (pD p), x5]) fun p hp => ⟨rfl, ?_, fun _ => ?_⟩
        · have hin := inD_pairs (okP_of ok ((hlp p hp).ok ok)) hnp
          by_cases h : p ∈ new
          · rw [decide_eq_true h] at hin
            simp [c38_7, IR.exec, ev, evs, evp, itM, setL, mkSlot, mdOf, frzE, retOk, isC, asgP_n, asgP_t, asgPs_nil, asgPs_cons, isNop_nop, isNop_rv, isNop_v, isNop_c, isNop_bin, isNop_call, isNop_sub, isNop_bi, flatO, flatD, isTs, isT, objOk, isNonD, wipeE, cmpD, binD, biD, subD, slD, isDct, isLst, -List.length_flatMap, -List.map_drop, -List.map_take, hin, h]
          · rw [decide_eq_false h] at hin
            simp [c38_7, IR.exec, ev, evs, evp, itM, setL, mkSlot, mdOf, frzE, retOk, isC, asgP_n, asgP_t, asgPs_nil, asgPs_cons, isNop_nop, isNop_rv, isNop_v, isNop_c, isNop_bin, isNop_call, isNop_sub, isNop_bi, flatO, flatD, isTs, isT, objOk, isNonD, wipeE, cmpD, binD, biD, subD, slD, isDct, isLst, -List.length_flatMap, -List.map_drop, -List.map_take, hin, h]
        · simp [e38_6, ev]
      have hl2 : ∀ p, p ∈ (left.filter fun p => decide (¬ p ∈ new)) ↔ p ∈ left ∧ ¬ p ∈ new := fun p => by
        rw [List.mem_filter, decide_eq_true_eq]
      have hlt : new ≠ [] → (left.filter fun p => decide (¬ p ∈ new)).length < left.length := fun h => by
        obtain ⟨x, xs, hx⟩ := List.exists_cons_of_ne_nil h
        have hx' : x ∈ new := by rw [hx]; simp
        exact List.length_filter_lt_length_iff_exists.mpr ⟨x, ((hnew x).mp hx').1, by simp [hx']⟩
      have hnd2 : (left.filter fun p => decide (¬ p ∈ new)).Nodup := List.Pairwise.filter _ I.nd
      generalize hL : (left.filter fun p => decide (¬ p ∈ new)) = left2 at *
      have I2 : PlI R ms new left2 rk' := {
        rki := J
        nd := hnd2
        sub := fun p hp => I.sub p ((hl2 p).mp hp).1
        dis := fun p hp h => by
          rcases (hJ p).mp h with h | h
          · exact I.dis p ((hl2 p).mp hp).1 h
          · exact ((hl2 p).mp hp).2 h
        all := fun p hp => by
          rcases I.all p hp with h | h
          · by_cases hn : p ∈ new
            · exact .inr ((hJ p).mpr (.inr hn))
            · exact .inl ((hl2 p).mpr ⟨h, hn⟩)
          · exact .inr ((hJ p).mpr (.inl h))
        stk := fun en p hp => by
          obtain ⟨h1, h2⟩ := (hl2 p).mp hp
          have h3 : ¬ ∀ q ∈ behind R p, q ∈ rk.map (·.1) := fun h => h2 ((hnew p).mpr ⟨h1, h⟩)
          have h4 : ∃ q, q ∈ behind R p ∧ ¬ q ∈ rk.map (·.1) := Classical.byContradiction fun h5 => h3 fun q hq => Classical.byContradiction fun h6 => h5 ⟨q, hq, h6⟩
          obtain ⟨q, hq, h6⟩ := h4
          refine ⟨q, hq, fun h7 => ?_⟩
          rcases (hJ q).mp h7 with h8 | h8
          · exact h6 h8
          · rw [en] at h8
            cases h8 }
      have hev2 : ∀ (y1 y3 y4 y5 : Slot) (s : DS), itM Γ (callM Γ tb (k - 1)) (.l (.rv 2)) [.sh (boxD R), y1, x2, y3, y4, y5] s = .ok (left.map pD) s := fun y1 y3 y4 y5 s => by
        rw [itM, hev]
        rfl
      have hev3 : itM Γ (callM Γ tb (k - 1)) (.l (.v 1)) [.sh (boxD R), .sh (.lst (new.map pD)), x2, .own (.dct true (rkD rk)), x4, x5] s2 = .ok (new.map pD) s2 := by
        simp [itM, ev]
      simp only [b38_9, IR.exec, ev, hev2, hev3, wipeE, bind_ok, List.length_map, hll1, if_true, c38_3_nop, c38_7_nop, Bool.false_eq_true, if_false, hlc, mkSlot, mdOf, isC, and_self, frzE, List.set_cons_succ, List.set_cons_zero, List.getElem?_cons_succ, List.getElem?_cons_zero, e3, t38_8, hlc3, sat_ok, aft_nx]
      refine ⟨if new = [] then 0 else left2.length + 1, ?_, trivial, new, left2, rk', _, y4, x5, rfl, .inr rfl, I2, fun p hp => hlp p ((hnew p).mp hp).1, rfl⟩
      by_cases h : new = []
      · rw [if_pos h]
        omega
      · rw [if_neg h]
        have := hlt h
        omega
    · have hrd : rdy = [] := by simpa using ht
      subst hrd
      exact ⟨rfl, left, rk, _, x2, x4, x5, rfl, hx2, I⟩
  obtain ⟨fl, s2, e3, q1, left, rk, x1, x2, x4, x5, q2, hx2, I⟩ := sat_ex hs
  subst q1
  subst q2
  refine ⟨ms, left, rk, ?_, hre, I⟩
  rw [run38 (by omega)]
  rcases hx2 with rfl | rfl
  · simp [f38, IR.exec, ev, evs, evp, itM, setL, mkSlot, mdOf, frzE, retOk, isC, asgP_n, asgP_t, asgPs_nil, asgPs_cons, isNop_nop, isNop_rv, isNop_v, isNop_c, isNop_bin, isNop_call, isNop_sub, isNop_bi, flatO, flatD, isTs, isT, objOk, isNonD, wipeE, cmpD, binD, biD, subD, slD, isDct, isLst, -List.length_flatMap, -List.map_drop, -List.map_take, hms, e3, t38_10]
  · simp [f38, IR.exec, ev, evs, evp, itM, setL, mkSlot, mdOf, frzE, retOk, isC, asgP_n, asgP_t, asgPs_nil, asgPs_cons, isNop_nop, isNop_rv, isNop_v, isNop_c, isNop_bin, isNop_call, isNop_sub, isNop_bi, flatO, flatD, isTs, isT, objOk, isNonD, wipeE, cmpD, binD, biD, subD, slD, isDct, isLst, -List.length_flatMap, -List.map_drop, -List.map_take, hms, e3, t38_10]
end
end K94
end
section
set_option Elab.async false
set_option linter.all false
set_option maxRecDepth 100000
set_option maxHeartbeats 4100000
namespace K94
open L2 IR
open PySem (Str PyData)
section
variable {k : Nat} {s : DS} {R : Raw}
theorem ranked_m (ok : RawOk R) (hk : 6 ≤ k) : ∃ (ms left : List Pr) (rk : Rk), callM Γ tb k 39 [boxD R] s = .ok (if left.isEmpty then .dct true (rkD rk) else .non) s ∧ (∀ p, p ∈ ms ↔ Reach R p) ∧ PlI R ms [] left rk := by
  obtain ⟨ms, left, rk, e, hre, I⟩ := peeled_m (s := s) ok (k := k - 1) (by omega)
  refine ⟨ms, left, rk, ?_, hre, I⟩
  have hnil := eqD_pairs_nil (xs := left) fun q hq => okP_of ok (((hre q).mp (I.sub q hq)).ok ok)
  rw [run39 (by omega)]
  cases h : left.isEmpty with
  | true =>
    rw [h] at hnil
    simp [f39, IR.exec, ev, evs, evp, itM, setL, mkSlot, mdOf, frzE, retOk, isC, asgP_n, asgP_t, asgPs_nil, asgPs_cons, isNop_nop, isNop_rv, isNop_v, isNop_c, isNop_bin, isNop_call, isNop_sub, isNop_bi, flatO, flatD, isTs, isT, objOk, isNonD, wipeE, cmpD, binD, biD, subD, slD, isDct, isLst, -List.length_flatMap, -List.map_drop, -List.map_take, e, hnil]
  | false =>
    rw [h] at hnil
    simp [f39, IR.exec, ev, evs, evp, itM, setL, mkSlot, mdOf, frzE, retOk, isC, asgP_n, asgP_t, asgPs_nil, asgPs_cons, isNop_nop, isNop_rv, isNop_v, isNop_c, isNop_bin, isNop_call, isNop_sub, isNop_bi, flatO, flatD, isTs, isT, objOk, isNonD, wipeE, cmpD, binD, biD, subD, slD, isDct, isLst, -List.length_flatMap, -List.map_drop, -List.map_take, e, hnil]
theorem least_delay_m (ok : RawOk R) (hk : 7 ≤ k) : ∃ o : Option Nat, callM Γ tb k 40 [boxD R] s = .ok (match o with | none => .non | some d => .int d) s ∧
    (o = none → ∃ p, Reach R p ∧ ∀ n, HP R n p) ∧ ∀ d, o = some d → (∀ p ∈ firstP R, ¬ HP R d p) ∧ (0 < d → ∃ p ∈ firstP R, HP R (d - 1) p) := by
  obtain ⟨ms, left, rk, e, hre, I⟩ := ranked_m (s := s) ok (k := k - 1) (by omega)
  rw [run40 (by omega)]
  cases left with
  | cons p0 left =>
    refine ⟨none, ?_, fun _ => ?_, fun d h => by cases h⟩
    · simp at e
      simp [f40, IR.exec, ev, evs, evp, itM, setL, mkSlot, mdOf, frzE, retOk, isC, asgP_n, asgP_t, asgPs_nil, asgPs_cons, isNop_nop, isNop_rv, isNop_v, isNop_c, isNop_bin, isNop_call, isNop_sub, isNop_bi, flatO, flatD, isTs, isT, objOk, isNonD, wipeE, cmpD, binD, biD, subD, slD, isDct, isLst, -List.length_flatMap, -List.map_drop, -List.map_take, need_box_m (k := k - 1) (by omega), e]
    · have key : ∀ n, ∀ p ∈ p0 :: left, HP R n p := by
        intro n
        induction n with
        | zero => exact fun _ _ => trivial
        | succ n ih =>
          intro p hp
          obtain ⟨q, hq, h1⟩ := I.stk rfl p hp
          have hqr : q ∈ ms := (hre q).mpr (.next ((hre p).mp (I.sub p hp)) hq)
          rcases I.all q hqr with h | h
          · exact ⟨q, hq, ih q h⟩
          · exact absurd h h1
      exact ⟨p0, (hre p0).mp (I.sub p0 (List.mem_cons_self ..)), fun n => key n p0 (List.mem_cons_self ..)⟩
  | nil =>
    simp only [List.isEmpty_nil, if_true] at e
    have hf : ∀ p ∈ firstP R, ∃ r, rget rk p = some r := fun p hp => rget_some <| by
      rcases I.all p ((hre p).mpr (.first hp)) with h | h
      · cases h
      · exact h
    have hlc : lcM (.n 2) [.sh (boxD R), .sh (.dct true (rkD rk)), .no] (fun ρ s => .ok (.bl true) s) (fun ρ s => ev Γ (callM Γ tb (k - 1)) e40_0 ρ s) ((firstP R).map pD) s
        = .ok ((firstP R).map fun p => .int ((rget rk p).getD 0 + 1)) s := by
      refine lcM_map (enc := pD) (xs := firstP R) (p := .n 2) (ρ := [.sh (boxD R), .sh (.dct true (rkD rk)), .no]) (fun p => .int ((rget rk p).getD 0 + 1)) (fun p => [.sh (boxD R), .sh (.dct true (rkD rk)), .sh (pD p)]) fun p hp => ⟨rfl, ?_⟩
      obtain ⟨r, hr⟩ := hf p hp
      simp [e40_0, IR.exec, ev, evs, evp, itM, setL, mkSlot, mdOf, frzE, retOk, isC, asgP_n, asgP_t, asgPs_nil, asgPs_cons, isNop_nop, isNop_rv, isNop_v, isNop_c, isNop_bin, isNop_call, isNop_sub, isNop_bi, flatO, flatD, isTs, isT, objOk, isNonD, wipeE, cmpD, binD, biD, subD, slD, isDct, isLst, -List.length_flatMap, -List.map_drop, -List.map_take, dget_rk, hr]
    obtain ⟨m, hm, hm1, hm2⟩ := maxL_ok 0 ((firstP R).map fun p => (rget rk p).getD 0 + 1)
    have hm0 : 0 ≤ m := hm2 0 (List.mem_cons_self ..)
    obtain ⟨d, rfl⟩ : ∃ d : Nat, m = d := ⟨m.toNat, by omega⟩
    have hints : intsOf (D.int 0 :: (firstP R).map fun p => D.int ((rget rk p).getD 0 + 1)) = some (0 :: (firstP R).map fun p => (rget rk p).getD 0 + 1) := by
      rw [intsOf, intsOf_map]
      rfl
    have hbl : (firstP R).length ≤ 64 := prs_len ok nodup_dedP fun q hq => firstP_ok ok hq
    have hbl1 : (firstP R).length ≤ lim := le_lim (by omega)
    have hbl2 : 1 + (firstP R).length ≤ lim := le_lim (by omega)
    refine ⟨some d, ?_, (fun h => nomatch h), fun d' hd => ?_⟩
    · have hfp := fun s => first_pairs_m (s := s) ok (k := k - 1) (by omega)
      have hnb := fun s => need_box_m (s := s) (R := R) (k := k - 1) (by omega)
      simp only [f40, IR.exec, ev, evs, evp, itM, setL, mkSlot, mdOf, frzE, retOk, isC, asgP_n, asgP_t, asgPs_nil, asgPs_cons, isNop_nop, isNop_rv, isNop_v, isNop_c, isNop_bin, isNop_call, isNop_sub, isNop_bi, flatO, flatD, isTs, isT, objOk, isNonD, wipeE, cmpD, binD, biD, subD, slD, isDct, isLst, Bool.false_eq_true, and_self, if_false, if_true, bind_ok, of_some, onB_bl, boolO_bl, intO, List.getElem?_cons_succ, List.getElem?_cons_zero, List.set_cons_zero, List.set_cons_succ, sat_ok, aft_nx, aft_rt, aft_ct, aft_bk, Option.map_some, endO_rt, endO_nx, fl21, hnb, e, fl39, fr39, and_self, false_and, List.length_map, fl36, hfp, hbl1, hlc, hbl2, List.length_cons, List.length_nil, Nat.zero_add, List.cons_append, List.nil_append, hints, hm, lim1, Nat.zero_le, reduceCtorEq]
      simp
    · cases hd
      refine ⟨fun p hp h => ?_, fun h0 => ?_⟩
      · obtain ⟨r, hr⟩ := hf p hp
        have h1 := rget_mem hr
        have h2 := I.rki.ge p r h1
        have h3 : (rget rk p).getD 0 + 1 ≤ (d : Int) := hm2 _ (List.mem_cons_of_mem _ (List.mem_map.mpr ⟨p, hp, rfl⟩))
        rw [hr] at h3
        have h3 : r + 1 ≤ (d : Int) := h3
        exact (I.rki.hp r.toNat p r h1 rfl).2 (h.le (by omega))
      · rcases List.mem_cons.mp hm1 with h | h
        · omega
        · obtain ⟨p, hp, h⟩ := List.mem_map.mp h
          obtain ⟨r, hr⟩ := hf p hp
          rw [hr] at h
          have h : r + 1 = (d : Int) := h
          have h1 := rget_mem hr
          have h2 := I.rki.ge p r h1
          refine ⟨p, hp, ?_⟩
          have := (I.rki.hp r.toNat p r h1 rfl).1
          have e2 : d - 1 = r.toNat := by omega
          rw [e2]
          exact this
end
end K94
end
section
set_option Elab.async false
set_option linter.all false
set_option maxRecDepth 100000
set_option maxHeartbeats 4100000
namespace K94
open L2 IR
open PySem (Str PyData)
abbrev Way := Str × List Str × List Str × Str × Str
def wayD (w : Way) : D := .tup [.str w.1, .lst (w.2.1.map .str), .lst (w.2.2.1.map .str), .str w.2.2.2.1, .str w.2.2.2.2]
section
variable {k : Nat} {s : DS} {R : Raw}
def ap2 (xs : List Str) : List Pr := xs.zipIdx.flatMap fun q => (xs.drop (q.2 + 1)).map fun o => (q.1, o)
theorem ap2_ok {xs : List Str} {p : Pr} (h : p ∈ ap2 xs) : p.1 ∈ xs ∧ p.2 ∈ xs := by
  unfold ap2 at h
  simp only [List.mem_flatMap, List.mem_map] at h
  obtain ⟨q, hq, o, ho, rfl⟩ := h
  exact ⟨List.mem_of_getElem? (List.mem_zipIdx_iff_getElem?.mp hq), List.mem_of_mem_drop ho⟩
theorem all_pairs_m (ok : RawOk R) (hk : 2 ≤ k) : callM Γ tb k 31 [boxD R] s = .ok (.lst ((ap2 R.st).map pD)) s := by
  rw [run31 (by omega)]
  have hs : Sat (forM (fun ρ s => IR.exec Γ (callM Γ tb (k - 1)) true fuelW b31_1 ρ s) (.t (.cons (.n 3) (.cons (.n 4) .nil))) (R.st.zipIdx.map fun q => .tup [.int q.2, .str q.1]) [.sh (boxD R), .sh (.lst (R.st.map .str)), .own (.lst []), .no, .no, .no] s)
      (fun fl s' => s' = s ∧ ∃ x3 x4 x5, fl = .nx [.sh (boxD R), .sh (.lst (R.st.map .str)), .own (.lst ((ap2 R.st).map pD)), x3, x4, x5]) := by
    refine forM_sat (fun pre ρ s' => s' = s ∧ ∃ x3 x4 x5, ρ = [.sh (boxD R), .sh (.lst (R.st.map .str)), .own (.lst ((pre.flatMap fun q => (R.st.drop (q.2 + 1)).map fun o => (q.1, o)).map pD)), x3, x4, x5]) ⟨rfl, .no, .no, .no, rfl⟩ ?_ ?_
    · rintro pre ⟨st, i⟩ post ρ s' e ⟨q1, y3, y4, y5, q2⟩
      subst q1
      subst q2
      refine ⟨_, rfl, ?_⟩
      have hc : cutL (R.st.map D.str) (some ((i : Int) + 1)) none = (R.st.drop (i + 1)).map D.str := by
        rw [cutL_map, show (i : Int) + 1 = ((i + 1 : Nat) : Int) by simp, cut_from]
      have hlc : lcM (.n 5) [.sh (boxD R), .sh (.lst (R.st.map .str)), .own (.lst ((pre.flatMap fun q => (R.st.drop (q.2 + 1)).map fun o => (q.1, o)).map pD)), .sh (.int i), .sh (.str st), .no] (fun ρ s => .ok (.bl true) s) (fun ρ s => ev Γ (callM Γ tb (k - 1)) e31_0 ρ s) ((R.st.drop (i + 1)).map .str) s'
          = .ok ((R.st.drop (i + 1)).map fun o => pD (st, o)) s' := by
        refine lcM_map (enc := D.str) (xs := R.st.drop (i + 1)) (p := .n 5) (ρ := [.sh (boxD R), .sh (.lst (R.st.map .str)), .own (.lst ((pre.flatMap fun q => (R.st.drop (q.2 + 1)).map fun o => (q.1, o)).map pD)), .sh (.int i), .sh (.str st), .no]) (fun o => pD (st, o))
          (fun o => [.sh (boxD R), .sh (.lst (R.st.map .str)), .own (.lst ((pre.flatMap fun q => (R.st.drop (q.2 + 1)).map fun o => (q.1, o)).map pD)), .sh (.int i), .sh (.str st), .sh (.str o)]) fun o ho => ⟨rfl, ?_⟩
        simp [e31_0, IR.exec, ev, evs, evp, itM, setL, mkSlot, mdOf, frzE, retOk, isC, asgP_n, asgP_t, asgPs_nil, asgPs_cons, isNop_nop, isNop_rv, isNop_v, isNop_c, isNop_bin, isNop_call, isNop_sub, isNop_bi, flatO, flatD, isTs, isT, objOk, isNonD, wipeE, cmpD, binD, biD, subD, slD, isDct, isLst, -List.length_flatMap, -List.map_drop, -List.map_take, pD]
      have hl := ok.stl
      have hl1 : (R.st.drop (i + 1)).length ≤ lim := le_lim (by rw [List.length_drop]; omega)
      have hl2 : (pre.flatMap fun q => (R.st.drop (q.2 + 1)).map fun o => (q.1, o)).length + (R.st.drop (i + 1)).length ≤ lim := le_lim <| by
        have h1 := flatMap_len (xs := pre) (f := fun q => (R.st.drop (q.2 + 1)).map fun o => (q.1, o)) (c := 8) fun x _ => by rw [List.length_map, List.length_drop]; omega
        have h2 := congrArg List.length e
        simp only [List.length_zipIdx, List.length_append, List.length_cons] at h2
        rw [List.length_drop]
        omega
      simp only [b31_1, IR.exec, ev, evs, evp, itM, setL, mkSlot, mdOf, frzE, retOk, isC, asgP_n, asgP_t, asgPs_nil, asgPs_cons, isNop_nop, isNop_rv, isNop_v, isNop_c, isNop_bin, isNop_call, isNop_sub, isNop_bi, flatO, flatD, isTs, isT, objOk, isNonD, wipeE, cmpD, binD, biD, subD, slD, isDct, isLst, Bool.false_eq_true, and_self, if_false, if_true, bind_ok, of_some, onB_bl, boolO_bl, intO, List.getElem?_cons_succ, List.getElem?_cons_zero, List.set_cons_zero, List.set_cons_succ, sat_ok, aft_nx, aft_rt, aft_ct, aft_bk, Option.map_some, endO_rt, endO_nx, hc, List.length_map, hl1, hl2, hlc]
      exact ⟨trivial, .sh (.int i), .sh (.str st), y5, by simp [Function.comp_def]⟩
    · rintro ρ s' ⟨q1, x3, x4, x5, q2⟩
      subst q1
      subst q2
      exact ⟨rfl, x3, x4, x5, rfl⟩
  obtain ⟨fl, s2, e3, q1, z3, z4, z5, q2⟩ := sat_ex hs
  subst q1
  subst q2
  simp [f31, IR.exec, ev, evs, evp, itM, setL, mkSlot, mdOf, frzE, retOk, isC, asgP_n, asgP_t, asgPs_nil, asgPs_cons, isNop_nop, isNop_rv, isNop_v, isNop_c, isNop_bin, isNop_call, isNop_sub, isNop_bi, flatO, flatD, isTs, isT, objOk, isNonD, wipeE, cmpD, binD, biD, subD, slD, isDct, isLst, -List.length_flatMap, -List.map_drop, -List.map_take, states_m (k := k - 1) (show 1 ≤ k - 1 by omega), enumD_map, e3, t31_2]
structure LsI (R : Raw) (ways : List Way) (pairs : List Pr) (at_ : Nat) : Prop where
  nd : pairs.Nodup
  pr : ∀ p ∈ pairs, Reach R p
  ws : ∀ w ∈ ways, w.2.2.2.1 ∈ R.st ∧ w.2.2.2.2 ∈ R.st ∧ Reach R (pairOf R w.2.2.2.1 w.2.2.2.2) ∧ w.2.1.length ≤ pairs.length + 1 ∧ w.2.2.1.length ≤ pairs.length + 1
  fi : ∀ q ∈ firstTw R, ∃ w ∈ ways, w.2.2.2 = q.2.2.2
  dn : ∀ i < at_, ∀ w, ways[i]? = some w → w.2.2.2.1 ≠ w.2.2.2.2 ∧ pairOf R w.2.2.2.1 w.2.2.2.2 ∈ pairs
  cl : ∀ p ∈ pairs, ∃ m t, m ∈ R.st ∧ t ∈ R.st ∧ p = pairOf R m t ∧ ∀ x ∈ nextTw R m t, ∃ w ∈ ways, w.2.2.2 = x.2.2
  wl : ways.length ≤ 512 + 64 * pairs.length
  le : at_ ≤ ways.length
theorem LsI.end {ways : List Way} {pairs : List Pr} (ok : RawOk R) (I : LsI R ways pairs ways.length) : ∀ p, Reach R p → p.1 ≠ p.2 := by
  have hw : ∀ w ∈ ways, w.2.2.2.1 ≠ w.2.2.2.2 ∧ pairOf R w.2.2.2.1 w.2.2.2.2 ∈ pairs := fun w hw => by
    obtain ⟨i, hi⟩ := List.mem_iff_getElem?.mp hw
    exact I.dn i (List.getElem?_eq_some_iff.mp hi).1 w hi
  have hne : ∀ {m t : Str}, m ≠ t → (pairOf R m t).1 ≠ (pairOf R m t).2 := fun {m t} h => by
    rcases pairOf_or R m t with e | e <;> rw [e]
    · exact h
    · exact h.symm
  have key : ∀ p, Reach R p → p ∈ pairs ∧ p.1 ≠ p.2 := by
    intro p hp
    induction hp with
    | first h =>
      obtain ⟨q, hq, rfl⟩ := List.mem_map.mp (mem_dedP.mp h)
      obtain ⟨w, h1, h2⟩ := I.fi q hq
      obtain ⟨h3, h4⟩ := hw w h1
      rw [h2] at h3 h4
      exact ⟨h4, hne h3⟩
    | next h hq ih =>
      obtain ⟨m, t, hm, ht, rfl, h1⟩ := I.cl _ ih.1
      obtain ⟨x, hx, rfl⟩ := (behind_pairOf ok hm ht).mp hq
      obtain ⟨w, h2, h3⟩ := h1 x hx
      obtain ⟨h4, h5⟩ := hw w h2
      rw [h3] at h4 h5
      exact ⟨h5, hne h4⟩
  exact fun p hp => (key p hp).2
end
end K94
end
section
set_option Elab.async false
set_option linter.all false
set_option maxRecDepth 100000
set_option maxHeartbeats 4100000
namespace K94
open L2 IR
open PySem (Str PyData)
section
variable {k : Nat} {s : DS} {R : Raw}
def moreW (w : Way) (x : Nx) : Way := (w.1, w.2.1 ++ [x.1], w.2.2.1 ++ [x.2.1], x.2.2.1, x.2.2.2)
theorem ls_a {w : Way} {nxs : List Nx} {ways : List Way} {x0 x2 x3 x7 x8 x9 x10 x11 x12 x13 : Slot} (h1 : w.2.1.length + 1 ≤ lim) (h2 : w.2.2.1.length + 1 ≤ lim) (hl : ways.length + nxs.length ≤ lim) :
    Sat (forM (fun ρ s => IR.exec Γ (callM Γ tb k) false fuelW b34_2 ρ s) (.t (.cons (.n 9) (.cons (.n 10) (.cons (.n 11) (.cons (.n 12) .nil))))) (nxs.map nxD) [x0, .own (.lst (ways.map wayD)), x2, x3, .sh (.str w.1), .sh (.lst (w.2.1.map .str)), .sh (.lst (w.2.2.1.map .str)), x7, x8, x9, x10, x11, x12, x13] s)
      (fun fl s' => s' = s ∧ ∃ x9 x10 x11 x12, fl = .nx [x0, .own (.lst ((ways ++ nxs.map (moreW w)).map wayD)), x2, x3, .sh (.str w.1), .sh (.lst (w.2.1.map .str)), .sh (.lst (w.2.2.1.map .str)), x7, x8, x9, x10, x11, x12, x13]) := by
  refine forM_sat (fun pre ρ s' => s' = s ∧ ∃ x9 x10 x11 x12, ρ = [x0, .own (.lst ((ways ++ pre.map (moreW w)).map wayD)), x2, x3, .sh (.str w.1), .sh (.lst (w.2.1.map .str)), .sh (.lst (w.2.2.1.map .str)), x7, x8, x9, x10, x11, x12, x13]) ⟨rfl, x9, x10, x11, x12, by simp⟩ ?_ ?_
  · rintro pre x post ρ s' e ⟨q1, y9, y10, y11, y12, q2⟩
    subst q1
    subst q2
    refine ⟨_, rfl, ?_⟩
    have hlen : ways.length + pre.length < lim := by
      have h4 := congrArg List.length e
      simp only [List.length_append, List.length_cons] at h4
      omega
    simp [b34_2, IR.exec, ev, evs, evp, itM, setL, mkSlot, mdOf, frzE, retOk, isC, asgP_n, asgP_t, asgPs_nil, asgPs_cons, isNop_nop, isNop_rv, isNop_v, isNop_c, isNop_bin, isNop_call, isNop_sub, isNop_bi, flatO, flatD, isTs, isT, objOk, isNonD, wipeE, cmpD, binD, biD, subD, slD, isDct, isLst, -List.length_flatMap, -List.map_drop, -List.map_take, h1, h2, hlen, wayD, moreW]
  · rintro ρ s' ⟨q1, x9, x10, x11, x12, q2⟩
    subst q1
    subst q2
    exact ⟨rfl, x9, x10, x11, x12, rfl⟩
theorem lossless_m (ok : RawOk R) (hk : 4 ≤ k) : ∃ (b : Bool) (r : List D), callM Γ tb k 34 [boxD R] s = .ok (.tup (.str (if b then "kept" else "clash") :: r)) s ∧ (b = true → ∀ p, Reach R p → p.1 ≠ p.2) := by
  have hs : Sat (whM (fun ρ s => ev Γ (callM Γ tb (k - 1)) w34_1 ρ s) (fun ρ s => IR.exec Γ (callM Γ tb (k - 1)) false fuelW b34_3 ρ s) fuelW
      [.sh (boxD R), .own (.lst (((firstTw R).map fun q => ((q.1, [q.2.1], [q.2.2.1], q.2.2.2.1, q.2.2.2.2) : Way)).map wayD)), .own (.lst []), .sh (.int 0), .no, .no, .no, .no, .no, .no, .no, .no, .no, .no] s)
      (fun fl s' => s' = s ∧ ((∃ r, fl = .rt (.tup (.str "clash" :: r))) ∨ ∃ ways pairs x3 x4 x5 x6 x7 x8 x9 x10 x11 x12, fl = .nx [.sh (boxD R), .own (.lst (List.map wayD ways)), .own (.lst (List.map pD pairs)), x3, x4, x5, x6, x7, x8, x9, x10, x11, x12, .no] ∧ LsI R ways pairs ways.length)) := by
    refine whM_sat (fun m ρ s' => s' = s ∧ ∃ ways pairs n x4 x5 x6 x7 x8 x9 x10 x11 x12, ρ = [.sh (boxD R), .own (.lst (List.map wayD ways)), .own (.lst (List.map pD pairs)), .sh (.int (n : Nat)), x4, x5, x6, x7, x8, x9, x10, x11, x12, .no] ∧ LsI R ways pairs n ∧ m = 65 * (64 - pairs.length) + (ways.length - n))
      (65 * 64 + (firstTw R).length) (by have := firstTw_len ok; show _ < 1000000000; omega) ⟨rfl, _, [], 0, .no, .no, .no, .no, .no, .no, .no, .no, .no, rfl, ⟨List.nodup_nil, fun p h => (nomatch h), fun w hw => ?_, fun q hq => ⟨_, List.mem_map.mpr ⟨q, hq, rfl⟩, rfl⟩, fun i h => by omega, fun p h => (nomatch h), by rw [List.length_map]; have := firstTw_len ok; omega, Nat.zero_le _⟩, by simp⟩ ?_
    · obtain ⟨q, hq, rfl⟩ := List.mem_map.mp hw
      have h1 := (firstTw_ok ok hq).2.2.2
      exact ⟨h1.1, h1.2, .first (mem_dedP.mpr (List.mem_map.mpr ⟨q, hq, rfl⟩)), by simp, by simp⟩
    rintro m ρ s' ⟨q1, ways, pairs, n, x4, x5, x6, x7, x8, x9, x10, x11, x12, q2, I, hm⟩
    subst q1
    subst q2
    have hpl : pairs.length ≤ 64 := prs_len ok I.nd fun p hp => (I.pr p hp).ok ok
    have hwl := I.wl
    refine ⟨decide (n < ways.length), by simp [w34_1, IR.exec, ev, evs, evp, itM, setL, mkSlot, mdOf, frzE, retOk, isC, asgP_n, asgP_t, asgPs_nil, asgPs_cons, isNop_nop, isNop_rv, isNop_v, isNop_c, isNop_bin, isNop_call, isNop_sub, isNop_bi, flatO, flatD, isTs, isT, objOk, isNonD, wipeE, cmpD, binD, biD, subD, slD, isDct, isLst, -List.length_flatMap, -List.map_drop, -List.map_take], fun ht => ?_, fun ht => ?_⟩
    · have hn : n < ways.length := of_decide_eq_true ht
      have hg : ways[n]? = some ways[n] := List.getElem?_eq_getElem hn
      generalize ways[n] = w at hg
      have hw := I.ws w (List.mem_of_getElem? hg)
      have hsub : atI (List.map wayD ways) ((n : Nat) : Int) = some (wayD w) := by
        rw [atI_map, atI_nat hg]
        rfl
      have heq := eqD_str (ok.ss _ hw.1) (ok.ss _ hw.2.1)
      have hpo : ∀ s, callM Γ tb (k - 1) 30 [boxD R, .str w.2.2.2.1, .str w.2.2.2.2] s = .ok (pD (pairOf R w.2.2.2.1 w.2.2.2.2)) s := fun s => pair_of_m ok (by omega) hw.1 hw.2.1
      have hin := inD_pairs (okP_of ok (pairOf_mem hw.1 hw.2.1)) fun x hx => okP_of ok ((I.pr x hx).ok ok)
      by_cases hmt : w.2.2.2.1 = w.2.2.2.2
      · rw [decide_eq_true hmt] at heq
        have heq2 : eqD (.str w.2.2.2.2) (.str w.2.2.2.2) = some true := hmt ▸ heq
        simp [b34_3, IR.exec, ev, evs, evp, itM, setL, mkSlot, mdOf, frzE, retOk, isC, asgP_n, asgP_t, asgPs_nil, asgPs_cons, isNop_nop, isNop_rv, isNop_v, isNop_c, isNop_bin, isNop_call, isNop_sub, isNop_bi, flatO, flatD, isTs, isT, objOk, isNonD, wipeE, cmpD, binD, biD, subD, slD, isDct, isLst, -List.length_flatMap, -List.map_drop, -List.map_take, hsub, wayD, heq2, hmt]
      · rw [decide_eq_false hmt] at heq
        by_cases hmem : pairOf R w.2.2.2.1 w.2.2.2.2 ∈ pairs
        · rw [decide_eq_true hmem] at hin
          have I2 : LsI R ways pairs (n + 1) := { I with
            dn := fun i hi v hv => by
              by_cases h : i < n
              · exact I.dn i h v hv
              · obtain rfl : i = n := by omega
                rw [hg] at hv
                cases hv
                exact ⟨hmt, hmem⟩
            le := hn }
          simp [b34_3, IR.exec, ev, evs, evp, itM, setL, mkSlot, mdOf, frzE, retOk, isC, asgP_n, asgP_t, asgPs_nil, asgPs_cons, isNop_nop, isNop_rv, isNop_v, isNop_c, isNop_bin, isNop_call, isNop_sub, isNop_bi, flatO, flatD, isTs, isT, objOk, isNonD, wipeE, cmpD, binD, biD, subD, slD, isDct, isLst, -List.length_flatMap, -List.map_drop, -List.map_take, hsub, wayD, heq, hpo, hin]
          exact ⟨_, by omega, ways, pairs, n + 1, by simp, I2, rfl⟩
        · rw [decide_eq_false hmem] at hin
          have hpl2 : (pairs ++ [pairOf R w.2.2.2.1 w.2.2.2.2]).Nodup := by
            rw [List.nodup_append]
            refine ⟨I.nd, by simp, fun a ha b hb e => ?_⟩
            simp at hb
            exact hmem (by rw [← hb, ← e]; exact ha)
          have hpr2 : ∀ p ∈ pairs ++ [pairOf R w.2.2.2.1 w.2.2.2.2], Reach R p := fun p hp => by
            (rcases List.mem_append.mp hp with h | h)
            · exact I.pr p h
            · simp at h
              rw [h]
              exact hw.2.2.1
          have hlen2 := prs_len ok hpl2 fun p hp => (hpr2 p hp).ok ok
          rw [List.length_append] at hlen2
          simp only [List.length_cons, List.length_nil] at hlen2
          have hnl := nextTw_len ok w.2.2.2.1 w.2.2.2.2
          have hpl3 : pairs.length < lim := lt_lim (by omega)
          obtain ⟨fl, s2, e3, q1, z9, z10, z11, z12, q2⟩ := sat_ex (ls_a (s := s') (k := k - 1) (w := w) (nxs := nextTw R w.2.2.2.1 w.2.2.2.2) (ways := ways) (x0 := .sh (boxD R)) (x2 := .own (.lst (List.map pD (pairs ++ [pairOf R w.2.2.2.1 w.2.2.2.2])))) (x3 := .sh (.int (n : Nat)))
            (x7 := .sh (.str w.2.2.2.1)) (x8 := .sh (.str w.2.2.2.2)) (x9 := x9) (x10 := x10) (x11 := x11) (x12 := x12) (x13 := .no) (le_lim (by omega)) (le_lim (by omega)) (le_lim (by omega)))
          subst q1
          subst q2
          have hnt := next_twins_m (s := s2) ok (k := k - 1) (by omega) w.2.2.2.1 w.2.2.2.2
          have I2 : LsI R (ways ++ (nextTw R w.2.2.2.1 w.2.2.2.2).map (moreW w)) (pairs ++ [pairOf R w.2.2.2.1 w.2.2.2.2]) (n + 1) := {
            nd := hpl2
            pr := hpr2
            ws := fun v hv => by
              rw [List.length_append]
              rcases List.mem_append.mp hv with h | h
              · obtain ⟨a1, a2, a3, a4, a5⟩ := I.ws v h
                exact ⟨a1, a2, a3, by omega, by omega⟩
              · obtain ⟨x, hx, rfl⟩ := List.mem_map.mp h
                have h1 := nextTw_ok ok hx
                refine ⟨h1.1, h1.2, .next hw.2.2.1 ((behind_pairOf ok hw.1 hw.2.1).mpr ⟨x, hx, rfl⟩), ?_, ?_⟩
                · show (w.2.1 ++ [x.1]).length ≤ _
                  rw [List.length_append]
                  simp
                  omega
                · show (w.2.2.1 ++ [x.2.1]).length ≤ _
                  rw [List.length_append]
                  simp
                  omega
            fi := fun q hq => by
              obtain ⟨v, h1, h2⟩ := I.fi q hq
              exact ⟨v, List.mem_append_left _ h1, h2⟩
            dn := fun i hi v hv => by
              by_cases h : i < n
              · rw [List.getElem?_append_left (by omega)] at hv
                obtain ⟨h1, h2⟩ := I.dn i h v hv
                exact ⟨h1, List.mem_append_left _ h2⟩
              · obtain rfl : i = n := by omega
                rw [List.getElem?_append_left hn, hg] at hv
                cases hv
                exact ⟨hmt, List.mem_append_right _ (by simp)⟩
            cl := fun p hp => by
              (rcases List.mem_append.mp hp with h | h)
              · obtain ⟨a, b, h1, h2, h3, h4⟩ := I.cl p h
                refine ⟨a, b, h1, h2, h3, fun x hx => ?_⟩
                obtain ⟨v, h5, h6⟩ := h4 x hx
                exact ⟨v, List.mem_append_left _ h5, h6⟩
              · simp at h
                exact ⟨_, _, hw.1, hw.2.1, h, fun x hx => ⟨_, List.mem_append_right _ (List.mem_map_of_mem hx), rfl⟩⟩
            wl := by
              rw [List.length_append, List.length_append, List.length_map]
              (simp only [List.length_cons, List.length_nil])
              omega
            le := by
              rw [List.length_append]
              omega }
          have hmap : List.map pD pairs ++ [pD (pairOf R w.2.2.2.1 w.2.2.2.2)] = List.map pD (pairs ++ [pairOf R w.2.2.2.1 w.2.2.2.2]) := by simp
          simp only [b34_3, IR.exec, ev, evs, evp, itM, setL, mkSlot, mdOf, frzE, retOk, isC, asgP_n, asgP_t, asgPs_nil, asgPs_cons, isNop_nop, isNop_rv, isNop_v, isNop_c, isNop_bin, isNop_call, isNop_sub, isNop_bi, flatO, flatD, isTs, isT, objOk, isNonD, wipeE, cmpD, binD, biD, subD, slD, isDct, isLst, Bool.false_eq_true, and_self, if_false, if_true, bind_ok, of_some, onB_bl, boolO_bl, intO, List.getElem?_cons_succ, List.getElem?_cons_zero, List.set_cons_zero, List.set_cons_succ, sat_ok, aft_nx, aft_rt, aft_ct, aft_bk, Option.map_some, endO_rt, endO_nx, evs, hsub, wayD, Option.bind_some, heq, fl30, hpo, hin, Bool.not_false, List.length_map, hpl3, hmap, fl33, hnt, e3]
          refine ⟨65 * (64 - (pairs ++ [pairOf R w.2.2.2.1 w.2.2.2.2]).length) + ((ways ++ (nextTw R w.2.2.2.1 w.2.2.2.2).map (moreW w)).length - (n + 1)), ?_, trivial, _, _, n + 1, .sh (.str w.1), .sh (.lst (w.2.1.map .str)), .sh (.lst (w.2.2.1.map .str)), .sh (.str w.2.2.2.1), .sh (.str w.2.2.2.2), z9, z10, z11, z12, by simp, I2, rfl⟩
          rw [List.length_append, List.length_append, List.length_map]
          (simp only [List.length_cons, List.length_nil])
          omega
    · have hn : ¬ n < ways.length := of_decide_eq_false ht
      have := I.le
      obtain rfl : n = ways.length := by omega
      exact ⟨rfl, .inr ⟨ways, pairs, _, x4, x5, x6, x7, x8, x9, x10, x11, x12, rfl, I⟩⟩
  have hnb := fun s => need_box_m (s := s) (R := R) (k := k - 1) (by omega)
  have hft := fun s => first_twins_m (s := s) ok (k := k - 1) (by omega)
  have hlc : lcM (.t (.cons (.n 4) (.cons (.n 5) (.cons (.n 6) (.cons (.n 7) (.cons (.n 8) .nil)))))) [.sh (boxD R), .no, .no, .no, .no, .no, .no, .no, .no, .no, .no, .no, .no, .no] (fun ρ s => .ok (.bl true) s) (fun ρ s => ev Γ (callM Γ tb (k - 1)) e34_0 ρ s) ((firstTw R).map twD) s
      = .ok ((firstTw R).map fun q => wayD (q.1, [q.2.1], [q.2.2.1], q.2.2.2.1, q.2.2.2.2)) s := by
    refine lcM_map (enc := twD) (xs := firstTw R) (p := .t (.cons (.n 4) (.cons (.n 5) (.cons (.n 6) (.cons (.n 7) (.cons (.n 8) .nil)))))) (ρ := [.sh (boxD R), .no, .no, .no, .no, .no, .no, .no, .no, .no, .no, .no, .no, .no]) (fun q => wayD (q.1, [q.2.1], [q.2.2.1], q.2.2.2.1, q.2.2.2.2))
      (fun q => [.sh (boxD R), .no, .no, .no, .sh (.str q.1), .sh (.str q.2.1), .sh (.str q.2.2.1), .sh (.str q.2.2.2.1), .sh (.str q.2.2.2.2), .no, .no, .no, .no, .no]) fun q hq => ⟨rfl, ?_⟩
    simp [e34_0, IR.exec, ev, evs, evp, itM, setL, mkSlot, mdOf, frzE, retOk, isC, asgP_n, asgP_t, asgPs_nil, asgPs_cons, isNop_nop, isNop_rv, isNop_v, isNop_c, isNop_bin, isNop_call, isNop_sub, isNop_bi, flatO, flatD, isTs, isT, objOk, isNonD, wipeE, cmpD, binD, biD, subD, slD, isDct, isLst, -List.length_flatMap, -List.map_drop, -List.map_take, wayD]
  have hfl := firstTw_len ok
  have hfl1 : (firstTw R).length ≤ lim := le_lim (by omega)
  obtain ⟨fl, s2, e3, q1, h⟩ := sat_ex hs
  subst q1
  rw [List.map_map] at e3
  have e3' : whM (fun ρ s => ev Γ (callM Γ tb (k - 1)) w34_1 ρ s) (fun ρ s => IR.exec Γ (callM Γ tb (k - 1)) false fuelW b34_3 ρ s) fuelW
      [.sh (boxD R), .own (.lst ((firstTw R).map fun q => wayD (q.1, [q.2.1], [q.2.2.1], q.2.2.2.1, q.2.2.2.2))), .own (.lst []), .sh (.int 0), .no, .no, .no, .no, .no, .no, .no, .no, .no, .no] s2 = .ok fl s2 := e3
  rcases h with ⟨r, rfl⟩ | ⟨ways, pairs, x3, x4, x5, x6, x7, x8, x9, x10, x11, x12, rfl, I⟩
  · refine ⟨false, r, ?_, fun h => by cases h⟩
    rw [run34 (by omega)]
    simp only [f34, IR.exec, ev, evs, evp, itM, setL, mkSlot, mdOf, frzE, retOk, isC, asgP_n, asgP_t, asgPs_nil, asgPs_cons, isNop_nop, isNop_rv, isNop_v, isNop_c, isNop_bin, isNop_call, isNop_sub, isNop_bi, flatO, flatD, isTs, isT, objOk, isNonD, wipeE, cmpD, binD, biD, subD, slD, isDct, isLst, Bool.false_eq_true, and_self, if_false, if_true, bind_ok, of_some, onB_bl, boolO_bl, intO, List.getElem?_cons_succ, List.getElem?_cons_zero, List.set_cons_zero, List.set_cons_succ, sat_ok, aft_nx, aft_rt, aft_ct, aft_bk, Option.map_some, endO_rt, endO_nx, evs, fl21, hnb, fl32, hft, List.length_map, hfl1, hlc, List.length_nil, Nat.zero_le, e3', and_self, and_false, false_and, reduceCtorEq]
  · refine ⟨true, [.lst (((ap2 R.st).filter fun q => decide (q ∈ pairs)).map pD)], ?_, fun _ => I.end ok⟩
    have hap := fun s => all_pairs_m (s := s) ok (k := k - 1) (by omega)
    have hal : (ap2 R.st).length ≤ lim := le_lim <| by
      have h1 := flatMap_len (xs := R.st.zipIdx) (f := fun q => (R.st.drop (q.2 + 1)).map fun o => (q.1, o)) (c := 8) fun x _ => by rw [List.length_map, List.length_drop]; have := ok.stl; omega
      rw [List.length_zipIdx] at h1
      have := ok.stl
      unfold ap2
      omega
    have hlc2 : lcM (.n 13) [.sh (boxD R), .own (.lst (List.map wayD ways)), .own (.lst (List.map pD pairs)), x3, x4, x5, x6, x7, x8, x9, x10, x11, x12, .no] (fun ρ s => ev Γ (callM Γ tb (k - 1)) c34_5 ρ s) (fun ρ s => ev Γ (callM Γ tb (k - 1)) e34_4 ρ s) ((ap2 R.st).map pD) s2
        = .ok (((ap2 R.st).filter fun q => decide (q ∈ pairs)).map pD) s2 := by
      refine lcM_pure (enc := pD) (xs := ap2 R.st) (p := .n 13) (ρ := [.sh (boxD R), .own (.lst (List.map wayD ways)), .own (.lst (List.map pD pairs)), x3, x4, x5, x6, x7, x8, x9, x10, x11, x12, .no]) (fun q => decide (q ∈ pairs)) pD
        (fun q => [.sh (boxD R), .own (.lst (List.map wayD ways)), .own (.lst (List.map pD pairs)), x3, x4, x5, x6, x7, x8, x9, x10, x11, x12, .sh (pD q)]) fun q hq => ⟨rfl, ?_, fun _ => ?_⟩
      · have hin := inD_pairs (okP_of ok (ap2_ok hq)) fun x hx => okP_of ok ((I.pr x hx).ok ok)
        simp [c34_5, IR.exec, ev, cmpD, hin]
      · simp [e34_4, ev]
    rw [run34 (by omega)]
    simp only [f34, IR.exec, ev, evs, evp, itM, setL, mkSlot, mdOf, frzE, retOk, isC, asgP_n, asgP_t, asgPs_nil, asgPs_cons, isNop_nop, isNop_rv, isNop_v, isNop_c, isNop_bin, isNop_call, isNop_sub, isNop_bi, flatO, flatD, isTs, isT, objOk, isNonD, wipeE, cmpD, binD, biD, subD, slD, isDct, isLst, Bool.false_eq_true, and_self, if_false, if_true, bind_ok, of_some, onB_bl, boolO_bl, intO, List.getElem?_cons_succ, List.getElem?_cons_zero, List.set_cons_zero, List.set_cons_succ, sat_ok, aft_nx, aft_rt, aft_ct, aft_bk, Option.map_some, endO_rt, endO_nx, evs, fl21, hnb, fl32, hft, List.length_map, hfl1, hlc, List.length_nil, Nat.zero_le, e3', t34_6, fl31, hap, hal, hlc2, c34_5_nop, and_self, and_false, false_and, reduceCtorEq, List.length_cons, Nat.zero_add, Nat.reduceAdd, lim2]
    simp
end
end K94
end
section
set_option Elab.async false
set_option linter.all false
set_option maxRecDepth 100000
set_option maxHeartbeats 4100000
namespace K94
open L2 IR
open PySem (Str PyData)
section
variable {k : Nat} {s : DS} {R : Raw}
theorem sub_raw0 (R : Raw) : subD (rawD R) (.int 0) = some (.lst (R.st.map .str)) := atI_0 _ _
theorem sub_raw1 (R : Raw) : subD (rawD R) (.int 1) = some (.lst (R.bt.map .str)) := atI_1 _ _ _
theorem sub_raw2 (R : Raw) : subD (rawD R) (.int 2) = some (.lst (R.rw.map rowD)) := atI_2 _ _ _ _
theorem sub_row0 (r : Row) : subD (rowD r) (.int 0) = some (.str r.1) := atI_0 _ _
theorem sub_row1 (r : Row) : subD (rowD r) (.int 1) = some (.str r.2.1) := atI_1 _ _ _
theorem sub_row2 (r : Row) : subD (rowD r) (.int 2) = some (.str r.2.2.1) := atI_2 _ _ _ _
theorem sub_row3 (r : Row) : subD (rowD r) (.int 3) = some (.str r.2.2.2) := atI_3 _ _ _ _ _
theorem alp_a {Γ1 : Gm} {tb1 : Nat → Fn} (ok : RawOk R) {t : Tr} (ht : t.2.2 ∈ R.st) {acc : List Tr} {x0 x1 x2 x3 x4 x9 : Slot} (h1 : t.1.length + 1 ≤ lim) (h2 : t.2.1.length + 1 ≤ lim) (hl : acc.length + R.rw.length ≤ lim) :
    Sat (forM (fun ρ s => IR.exec Γ1 (callM Γ1 tb1 k) false fuelW b55_0 ρ s) (.n 9) (R.rw.map rowD) [x0, x1, x2, x3, x4, .own (.lst (acc.map trD)), .sh (.lst (t.1.map .str)), .sh (.lst (t.2.1.map .str)), .sh (.str t.2.2), x9] s)
      (fun fl s' => s' = s ∧ ∃ x9, fl = .nx [x0, x1, x2, x3, x4, .own (.lst ((acc ++ apS R t).map trD)), .sh (.lst (t.1.map .str)), .sh (.lst (t.2.1.map .str)), .sh (.str t.2.2), x9]) := by
  refine forM_sat (fun pre ρ s' => s' = s ∧ ∃ x9, ρ = [x0, x1, x2, x3, x4, .own (.lst ((acc ++ pre.flatMap (ap1 t)).map trD)), .sh (.lst (t.1.map .str)), .sh (.lst (t.2.1.map .str)), .sh (.str t.2.2), x9]) ⟨rfl, x9, by simp⟩ ?_ ?_
  · rintro pre r post ρ s' e ⟨q1, y9, q2⟩
    subst q1
    subst q2
    refine ⟨_, rfl, ?_⟩
    have hr := ok.rws r (by rw [e]; simp)
    have hlen : (acc ++ pre.flatMap (ap1 t)).length < lim := by
      have h3 := flatMap_len (xs := pre) (f := ap1 t) (c := 1) fun x _ => ap1_len t x
      have h4 := congrArg List.length e
      simp only [List.length_append, List.length_cons] at h4 ⊢
      omega
    rw [List.length_append] at hlen
    have heq := eqD_str (ok.ss _ hr.1) (ok.ss _ ht)
    have s0 := sub_row0 r
    have s1 := sub_row1 r
    have s2 := sub_row2 r
    have s3 := sub_row3 r
    unfold subD rowD at s0 s1 s2 s3
    by_cases h : r.1 = t.2.2
    · rw [decide_eq_true h] at heq
      have ha : ap1 t r = [(t.1 ++ [r.2.1], t.2.1 ++ [r.2.2.1], r.2.2.2)] := if_pos h
      simp [b55_0, IR.exec, ev, evs, evp, itM, setL, mkSlot, mdOf, frzE, retOk, isC, asgP_n, asgP_t, asgPs_nil, asgPs_cons, isNop_nop, isNop_rv, isNop_v, isNop_c, isNop_bin, isNop_call, isNop_sub, isNop_bi, flatO, flatD, isTs, isT, objOk, isNonD, wipeE, cmpD, binD, biD, subD, slD, isDct, isLst, -List.length_flatMap, -List.map_drop, -List.map_take, rowD, s0, s1, s2, s3, heq, ha, hlen, h1, h2, trD]
    · rw [decide_eq_false h] at heq
      have ha : ap1 t r = [] := if_neg h
      simp [b55_0, IR.exec, ev, evs, evp, itM, setL, mkSlot, mdOf, frzE, retOk, isC, asgP_n, asgP_t, asgPs_nil, asgPs_cons, isNop_nop, isNop_rv, isNop_v, isNop_c, isNop_bin, isNop_call, isNop_sub, isNop_bi, flatO, flatD, isTs, isT, objOk, isNonD, wipeE, cmpD, binD, biD, subD, slD, isDct, isLst, -List.length_flatMap, -List.map_drop, -List.map_take, rowD, s0, s1, s2, s3, heq, ha]
  · rintro ρ s' ⟨q1, x9, q2⟩
    subst q1
    subst q2
    exact ⟨rfl, x9, rfl⟩
theorem alp_b {Γ1 : Gm} {tb1 : Nat → Fn} (ok : RawOk R) {trs : List Tr} {m : Nat} (hm : m ≤ 1000) (ht : ∀ t ∈ trs, t.1.length = m ∧ t.2.1.length = m ∧ t.2.2 ∈ R.st) (htl : trs.length ≤ 8 ^ 5) {x1 x2 x3 x4 x6 x7 x8 x9 : Slot} :
    Sat (forM (fun ρ s => IR.exec Γ1 (callM Γ1 tb1 k) false fuelW b55_1 ρ s) (.t (.cons (.n 6) (.cons (.n 7) (.cons (.n 8) .nil)))) (trs.map trD) [.sh (rawD R), x1, x2, x3, x4, .own (.lst []), x6, x7, x8, x9] s)
      (fun fl s' => s' = s ∧ ∃ x6 x7 x8 x9, fl = .nx [.sh (rawD R), x1, x2, x3, x4, .own (.lst ((trs.flatMap (apS R)).map trD)), x6, x7, x8, x9]) := by
  refine forM_sat (fun pre ρ s' => s' = s ∧ ∃ x6 x7 x8 x9, ρ = [.sh (rawD R), x1, x2, x3, x4, .own (.lst ((pre.flatMap (apS R)).map trD)), x6, x7, x8, x9]) ⟨rfl, x6, x7, x8, x9, rfl⟩ ?_ ?_
  · rintro pre t post ρ s' e ⟨q1, y6, y7, y8, y9, q2⟩
    subst q1
    subst q2
    refine ⟨_, rfl, ?_⟩
    obtain ⟨h1, h2, h3⟩ := ht t (by rw [e]; simp)
    have hlen : (pre.flatMap (apS R)).length + R.rw.length ≤ lim := le_lim <| by
      have h3 := flatMap_len (xs := pre) (f := apS R) (c := 8) fun x _ => apS_len ok x
      have h4 := congrArg List.length e
      have h5 := ok.rwl
      simp only [List.length_append, List.length_cons] at h4
      omega
    obtain ⟨fl, s2, e3, q1, z9, q2⟩ := sat_ex (alp_a (Γ1 := Γ1) (tb1 := tb1) (s := s') (k := k) ok (t := t) h3 (acc := pre.flatMap (apS R)) (x0 := .sh (rawD R)) (x1 := x1) (x2 := x2) (x3 := x3) (x4 := x4) (x9 := y9) (le_lim (by omega)) (le_lim (by omega)) hlen)
    subst q1
    subst q2
    have s2' := sub_raw2 R
    unfold subD at s2'
    simp only [b55_1, IR.exec, itM, ev, List.set_cons_succ, List.set_cons_zero, List.getElem?_cons_zero, bind_ok, sub_raw2, of_some, e3, sat_ok, aft_nx]
    exact ⟨trivial, .sh (.lst (t.1.map .str)), .sh (.lst (t.2.1.map .str)), .sh (.str t.2.2), z9, by simp⟩
  · rintro ρ s' ⟨q1, x6, x7, x8, x9, q2⟩
    subst q1
    subst q2
    exact ⟨rfl, x6, x7, x8, x9, rfl⟩
theorem all_presses_g {Γ1 : Gm} {tb1 : Nat → Fn} (S : tb1 55 = tb 55) (ok : RawOk R) (hk : 1 ≤ k) {one : Str} (ho : one ∈ R.st) {m : Nat} (hm : m ≤ 5) : callM Γ1 tb1 k 55 [rawD R, .str one, .int m] s = .ok (.lst ((AP R one m).map trD)) s := by
  rw [runG55 S (by omega)]
  have hin : ∀ n, ∀ t ∈ AP R one n, t.1.length = n ∧ t.2.1.length = n ∧ t.2.2 ∈ R.st := fun n t h => by
    have h1 := AP_lens ok h
    exact ⟨h1.1, h1.2, (play_ok ok ho ((mem_AP ok).mp h).2).2.2⟩
  have hs : Sat (forM (fun ρ s => IR.exec Γ1 (callM Γ1 tb1 (k - 1)) false fuelW b55_3 ρ s) (.n 4) ((List.range m).map fun (i : Nat) => D.int (0 + (i : Int))) [.sh (rawD R), .sh (.str one), .sh (.int m), .own (.lst [trD ([], [], one)]), .no, .no, .no, .no, .no, .no] s)
      (fun fl s' => s' = s ∧ ∃ x3 x4 x5 x6 x7 x8 x9, fl = .nx [.sh (rawD R), .sh (.str one), .sh (.int m), x3, x4, x5, x6, x7, x8, x9] ∧ (x3 = .own (.lst ((AP R one m).map trD)) ∨ x3 = .sh (.lst ((AP R one m).map trD)))) := by
    refine forM_sat (fun pre ρ s' => s' = s ∧ ∃ x3 x4 x5 x6 x7 x8 x9, ρ = [.sh (rawD R), .sh (.str one), .sh (.int m), x3, x4, x5, x6, x7, x8, x9] ∧ (x3 = .own (.lst ((AP R one pre.length).map trD)) ∨ x3 = .sh (.lst ((AP R one pre.length).map trD)))) ⟨rfl, _, .no, .no, .no, .no, .no, .no, rfl, .inl rfl⟩ ?_ ?_
    · rintro pre i post ρ s' e ⟨q1, y3, y4, y5, y6, y7, y8, y9, q2, hy⟩
      subst q1
      subst q2
      refine ⟨_, rfl, ?_⟩
      have hpl : pre.length < 5 := by
        have h4 := congrArg List.length e
        simp at h4
        omega
      have hal : (AP R one pre.length).length ≤ 8 ^ 5 := Nat.le_trans (AP_len ok one _) (Nat.pow_le_pow_right (by decide) (by omega))
      obtain ⟨fl, s2, e3, q1, z6, z7, z8, z9, q2⟩ := sat_ex (alp_b (Γ1 := Γ1) (tb1 := tb1) (s := s') (k := k - 1) ok (trs := AP R one pre.length) (m := pre.length) (by omega) (hin _) hal (x1 := .sh (.str one)) (x2 := .sh (.int m)) (x3 := .sh (.lst ((AP R one pre.length).map trD))) (x4 := .sh (.int (0 + (i : Int)))) (x6 := y6) (x7 := y7) (x8 := y8) (x9 := y9))
      subst q1
      subst q2
      have hap : (AP R one pre.length).flatMap (apS R) = AP R one (pre ++ [i]).length := by simp [IR.AP]
      rw [hap] at e3
      rcases hy with rfl | rfl
      · simp only [b55_3, IR.exec, ev, evs, evp, itM, setL, mkSlot, mdOf, frzE, retOk, isC, asgP_n, asgP_t, asgPs_nil, asgPs_cons, isNop_nop, isNop_rv, isNop_v, isNop_c, isNop_bin, isNop_call, isNop_sub, isNop_bi, flatO, flatD, isTs, isT, objOk, isNonD, wipeE, cmpD, binD, biD, subD, slD, isDct, isLst, Bool.false_eq_true, and_self, if_false, if_true, bind_ok, of_some, onB_bl, boolO_bl, intO, List.getElem?_cons_succ, List.getElem?_cons_zero, List.set_cons_zero, List.set_cons_succ, sat_ok, aft_nx, aft_rt, aft_ct, aft_bk, Option.map_some, endO_rt, endO_nx, evs, List.length_nil, Nat.zero_le, and_self, e3, t55_2]
        exact ⟨trivial, _, .sh (.int (0 + (i : Int))), _, z6, z7, z8, z9, rfl, .inr rfl⟩
      · simp only [b55_3, IR.exec, ev, evs, evp, itM, setL, mkSlot, mdOf, frzE, retOk, isC, asgP_n, asgP_t, asgPs_nil, asgPs_cons, isNop_nop, isNop_rv, isNop_v, isNop_c, isNop_bin, isNop_call, isNop_sub, isNop_bi, flatO, flatD, isTs, isT, objOk, isNonD, wipeE, cmpD, binD, biD, subD, slD, isDct, isLst, Bool.false_eq_true, and_self, if_false, if_true, bind_ok, of_some, onB_bl, boolO_bl, intO, List.getElem?_cons_succ, List.getElem?_cons_zero, List.set_cons_zero, List.set_cons_succ, sat_ok, aft_nx, aft_rt, aft_ct, aft_bk, Option.map_some, endO_rt, endO_nx, evs, List.length_nil, Nat.zero_le, and_self, e3, t55_2]
        exact ⟨trivial, _, .sh (.int (0 + (i : Int))), _, z6, z7, z8, z9, rfl, .inr rfl⟩
    · rintro ρ s' ⟨q1, x3, x4, x5, x6, x7, x8, x9, q2, hx⟩
      subst q1
      subst q2
      rw [List.length_range] at hx
      exact ⟨rfl, x3, x4, x5, x6, x7, x8, x9, rfl, hx⟩
  obtain ⟨fl, s2, e3, q1, z3, z4, z5, z6, z7, z8, z9, q2, hz⟩ := sat_ex hs
  subst q1
  subst q2
  have e3' : forM (fun ρ s => IR.exec Γ1 (callM Γ1 tb1 (k - 1)) false fuelW b55_3 ρ s) (.n 4) (rangeD 0 m) [.sh (rawD R), .sh (.str one), .sh (.int m), .own (.lst [.tup [.lst [], .lst [], .str one]]), .no, .no, .no, .no, .no, .no] s2 = .ok (.nx [.sh (rawD R), .sh (.str one), .sh (.int m), z3, z4, z5, z6, z7, z8, z9]) s2 := e3
  have hit : ∀ ρ, ρ[2]? = some (Slot.sh (.int m)) → itM Γ1 (callM Γ1 tb1 (k - 1)) (.r1 (.rv 2)) ρ s2 = .ok (rangeD 0 m) s2 := fun ρ h => itM_r1 (by rw [ev, h]) (by omega)
  rw [f55, IR.exec, show IR.exec Γ1 (callM Γ1 tb1 (k - 1)) false fuelW (.asg 3 (.lst (.cons (.tup (.cons (.lst .nil) (.cons (.lst .nil) (.cons (.v 1) .nil)))) .nil))) [.sh (rawD R), .sh (.str one), .sh (.int m), .no, .no, .no, .no, .no, .no, .no] s2 = .ok (.nx [.sh (rawD R), .sh (.str one), .sh (.int m), .own (.lst [.tup [.lst [], .lst [], .str one]]), .no, .no, .no, .no, .no, .no]) s2 by simp [IR.exec, ev, evs, evp, itM, setL, mkSlot, mdOf, frzE, retOk, isC, asgP_n, asgP_t, asgPs_nil, asgPs_cons, isNop_nop, isNop_rv, isNop_v, isNop_c, isNop_bin, isNop_call, isNop_sub, isNop_bi, flatO, flatD, isTs, isT, objOk, isNonD, wipeE, cmpD, binD, biD, subD, slD, isDct, isLst, -List.length_flatMap, -List.map_drop, -List.map_take], bind_ok]
  dsimp only
  rw [IR.exec, IR.exec, hit _ rfl, bind_ok, e3', bind_ok]
  rcases hz with rfl | rfl
  · simp [IR.exec, ev, evs, evp, itM, setL, mkSlot, mdOf, frzE, retOk, isC, asgP_n, asgP_t, asgPs_nil, asgPs_cons, isNop_nop, isNop_rv, isNop_v, isNop_c, isNop_bin, isNop_call, isNop_sub, isNop_bi, flatO, flatD, isTs, isT, objOk, isNonD, wipeE, cmpD, binD, biD, subD, slD, isDct, isLst, -List.length_flatMap, -List.map_drop, -List.map_take, t55_4]
  · simp [IR.exec, ev, evs, evp, itM, setL, mkSlot, mdOf, frzE, retOk, isC, asgP_n, asgP_t, asgPs_nil, asgPs_cons, isNop_nop, isNop_rv, isNop_v, isNop_c, isNop_bin, isNop_call, isNop_sub, isNop_bi, flatO, flatD, isTs, isT, objOk, isNonD, wipeE, cmpD, binD, biD, subD, slD, isDct, isLst, -List.length_flatMap, -List.map_drop, -List.map_take, t55_4]
theorem all_presses_m (ok : RawOk R) (hk : 1 ≤ k) {one : Str} (ho : one ∈ R.st) {m : Nat} (hm : m ≤ 5) : callM Γ tb k 55 [rawD R, .str one, .int m] s = .ok (.lst ((IR.AP R one m).map trD)) s := all_presses_g rfl ok hk ho hm
end
end K94
end
section
set_option Elab.async false
set_option linter.all false
set_option maxRecDepth 100000
set_option maxHeartbeats 4100000
namespace K94
open L2 IR
open PySem (Str PyData)
section
variable {k : Nat} {s : DS} {R : Raw}
/-- what `firsts` holds behind some of the lists -/
structure FsI (pre : List Tr) (kvs : List (Ky × D)) : Prop where
  hd : ∀ t ∈ pre, ∃ b bs, t.1 = b :: bs ∧ dget kvs (kyW t.2.1) = some (.str b)
  fr : ∀ ws d, dget kvs (kyW ws) = some d → ∃ t ∈ pre, ∃ b bs, t.2.1 = ws ∧ t.1 = b :: bs ∧ d = .str b
  ln : kvs.length ≤ pre.length
theorem tf_a (ok : RawOk R) {one : Str} (ho : one ∈ R.st) {m : Nat} (hm0 : 0 < m) (hm : m ≤ 5) {x0 x1 x4 x5 x6 x7 : Slot} :
    Sat (forM (fun ρ s => IR.exec Γ (callM Γ tb k) false fuelW b56_0 ρ s) (.t (.cons (.n 4) (.cons (.n 5) (.cons (.n 6) .nil)))) ((IR.AP R one m).map trD) [x0, x1, .sh (.str one), .own (.dct true []), x4, x5, x6, x7] s)
      (fun fl s' => s' = s ∧ ((fl = .rt (.bl true) ∧ TF R m) ∨ ∃ x3 x4 x5 x6 x7, fl = .nx [x0, x1, .sh (.str one), x3, x4, x5, x6, x7] ∧ ∀ t ∈ IR.AP R one m, ∀ u ∈ IR.AP R one m, t.2.1 = u.2.1 → t.1.head? = u.1.head?)) := by
  have hal : (IR.AP R one m).length ≤ 8 ^ 5 := Nat.le_trans (AP_len ok one _) (Nat.pow_le_pow_right (by decide) (by omega))
  refine forM_sat (fun pre ρ s' => s' = s ∧ ∃ kvs x4 x5 x6 x7, ρ = [x0, x1, .sh (.str one), .own (.dct true kvs), x4, x5, x6, x7] ∧ FsI pre kvs) ⟨rfl, [], x4, x5, x6, x7, rfl, fun t h => (nomatch h), fun ws d h => (nomatch h), Nat.le_refl _⟩ ?_ ?_
  · rintro pre t post ρ s' e ⟨q1, kvs, y4, y5, y6, y7, q2, I⟩
    subst q1
    subst q2
    refine ⟨_, rfl, ?_⟩
    have htm : t ∈ IR.AP R one m := by rw [e]; simp
    obtain ⟨ht1, ht2⟩ := (mem_AP ok).mp htm
    have hpo := play_ok ok ho ht2
    obtain ⟨ps, ws, h⟩ := t
    cases ps with
    | nil => exact absurd ht1 (by simp; omega)
    | cons b bs =>
      have hb : okS b := ok.bs _ (hpo.1 b (List.mem_cons_self ..))
      have hlen : kvs.length < lim := lt_lim <| by
        have h4 := congrArg List.length e
        have := I.ln
        simp only [List.length_append, List.length_cons] at h4
        omega
      cases hg : dget kvs (kyW ws) with
      | none =>
        have heq := eqD_str hb hb
        rw [decide_eq_true rfl] at heq
        have hget : getD? (.dct true kvs) (.tup (ws.map .str)) (.str b) = some (.str b) := by
          unfold getD?
          simp [hg]
        have I2 : FsI (pre ++ [(b :: bs, ws, h)]) (dput kvs (kyW ws) (.str b)) := {
          hd := fun t ht => by
            rcases List.mem_append.mp ht with ht | ht
            · obtain ⟨c, cs, e1, e2⟩ := I.hd t ht
              by_cases ew : t.2.1 = ws
              · rw [ew, hg] at e2
                cases e2
              · exact ⟨c, cs, e1, by rw [dget_dput_ne _ _ fun z => ew (kyW_inj z)]; exact e2⟩
            · obtain rfl := List.mem_singleton.mp ht
              exact ⟨b, bs, rfl, dget_dput_same _ _ _⟩
          fr := fun vs d hd => by
            by_cases ew : vs = ws
            · rw [ew, dget_dput_same] at hd
              cases hd
              exact ⟨_, List.mem_append_right _ (List.mem_singleton.mpr rfl), b, bs, ew.symm, rfl, rfl⟩
            · rw [dget_dput_ne _ _ fun z => ew (kyW_inj z)] at hd
              obtain ⟨t, h1, h2⟩ := I.fr vs d hd
              exact ⟨t, List.mem_append_left _ h1, h2⟩
          ln := by
            have := dput_len kvs (kyW ws) (.str b)
            have := I.ln
            rw [List.length_append]
            (simp only [List.length_cons, List.length_nil])
            omega }
        simp [b56_0, IR.exec, ev, evs, evp, itM, setL, mkSlot, mdOf, frzE, retOk, isC, asgP_n, asgP_t, asgPs_nil, asgPs_cons, isNop_nop, isNop_rv, isNop_v, isNop_c, isNop_bin, isNop_call, isNop_sub, isNop_bi, flatO, flatD, isTs, isT, objOk, isNonD, wipeE, cmpD, binD, biD, subD, slD, isDct, isLst, -List.length_flatMap, -List.map_drop, -List.map_take, trD, atI_0, hget, heq, hlen, I2]
      | some d =>
        obtain ⟨u, hu, c, cs, e1, e2, rfl⟩ := I.fr ws d hg
        have hum : u ∈ IR.AP R one m := by rw [e]; exact List.mem_append_left _ hu
        obtain ⟨hu1, hu2⟩ := (mem_AP ok).mp hum
        have hc : okS c := ok.bs _ ((play_ok ok ho hu2).1 c (by rw [e2]; simp))
        have heq := eqD_str hc hb
        have hget : getD? (.dct true kvs) (.tup (ws.map .str)) (.str b) = some (.str c) := by
          unfold getD?
          simp [hg]
        by_cases hcb : c = b
        · subst hcb
          rw [decide_eq_true rfl] at heq
          have I2 : FsI (pre ++ [(c :: bs, ws, h)]) (dput kvs (kyW ws) (.str c)) := {
            hd := fun t ht => by
              rcases List.mem_append.mp ht with ht | ht
              · obtain ⟨c', cs, e1, e2⟩ := I.hd t ht
                by_cases ew : t.2.1 = ws
                · rw [ew, hg] at e2
                  cases e2
                  exact ⟨c, cs, e1, by rw [ew]; exact dget_dput_same _ _ _⟩
                · exact ⟨c', cs, e1, by rw [dget_dput_ne _ _ fun z => ew (kyW_inj z)]; exact e2⟩
              · obtain rfl := List.mem_singleton.mp ht
                exact ⟨c, bs, rfl, dget_dput_same _ _ _⟩
            fr := fun vs d hd => by
              by_cases ew : vs = ws
              · rw [ew, dget_dput_same] at hd
                cases hd
                exact ⟨_, List.mem_append_right _ (List.mem_singleton.mpr rfl), c, bs, ew.symm, rfl, rfl⟩
              · rw [dget_dput_ne _ _ fun z => ew (kyW_inj z)] at hd
                obtain ⟨t, h1, h2⟩ := I.fr vs d hd
                exact ⟨t, List.mem_append_left _ h1, h2⟩
            ln := by
              have := dput_len kvs (kyW ws) (.str c)
              have := I.ln
              rw [List.length_append]
              (simp only [List.length_cons, List.length_nil])
              omega }
          simp [b56_0, IR.exec, ev, evs, evp, itM, setL, mkSlot, mdOf, frzE, retOk, isC, asgP_n, asgP_t, asgPs_nil, asgPs_cons, isNop_nop, isNop_rv, isNop_v, isNop_c, isNop_bin, isNop_call, isNop_sub, isNop_bi, flatO, flatD, isTs, isT, objOk, isNonD, wipeE, cmpD, binD, biD, subD, slD, isDct, isLst, -List.length_flatMap, -List.map_drop, -List.map_take, trD, atI_0, hget, heq, hlen, I2]
        · rw [decide_eq_false hcb] at heq
          have htf : TF R m := ⟨one, ho, u.1, b :: bs, ws, u.2.2, h, hu1, ht1, by rw [hu2, ← e1], ht2, by rw [e2]; simpa using hcb⟩
          simp [b56_0, IR.exec, ev, evs, evp, itM, setL, mkSlot, mdOf, frzE, retOk, isC, asgP_n, asgP_t, asgPs_nil, asgPs_cons, isNop_nop, isNop_rv, isNop_v, isNop_c, isNop_bin, isNop_call, isNop_sub, isNop_bi, flatO, flatD, isTs, isT, objOk, isNonD, wipeE, cmpD, binD, biD, subD, slD, isDct, isLst, -List.length_flatMap, -List.map_drop, -List.map_take, trD, atI_0, hget, heq, htf]
  · rintro ρ s' ⟨q1, kvs, y4, y5, y6, y7, q2, I⟩
    subst q1
    subst q2
    refine ⟨rfl, .inr ⟨_, y4, y5, y6, y7, rfl, fun t ht u hu ew => ?_⟩⟩
    obtain ⟨b, bs, e1, e2⟩ := I.hd t ht
    obtain ⟨c, cs, e3, e4⟩ := I.hd u hu
    rw [ew, e4] at e2
    cases e2
    rw [e1, e3]
    rfl
theorem two_firsts_m (ok : RawOk R) (hk : 2 ≤ k) {m : Nat} (hm0 : 0 < m) (hm : m ≤ 5) : ∃ b : Bool, callM Γ tb k 56 [rawD R, .int m] s = .ok (.bl b) s ∧ (b = true ↔ TF R m) := by
  have hs : Sat (forM (fun ρ s => IR.exec Γ (callM Γ tb (k - 1)) false fuelW b56_1 ρ s) (.n 2) (R.st.map .str) [.sh (rawD R), .sh (.int m), .no, .no, .no, .no, .no, .no] s)
      (fun fl s' => s' = s ∧ ((fl = .rt (.bl true) ∧ TF R m) ∨ ∃ ρ, fl = .nx ρ ∧ ¬ TF R m)) := by
    refine forM_sat (fun pre ρ s' => s' = s ∧ ∃ x2 x3 x4 x5 x6 x7, ρ = [.sh (rawD R), .sh (.int m), x2, x3, x4, x5, x6, x7] ∧ ∀ one ∈ pre, ∀ t ∈ IR.AP R one m, ∀ u ∈ IR.AP R one m, t.2.1 = u.2.1 → t.1.head? = u.1.head?) ⟨rfl, .no, .no, .no, .no, .no, .no, rfl, fun o h => (nomatch h)⟩ ?_ ?_
    · rintro pre one post ρ s' e ⟨q1, y2, y3, y4, y5, y6, y7, q2, I⟩
      subst q1
      subst q2
      refine ⟨_, rfl, ?_⟩
      have ho : one ∈ R.st := by rw [e]; simp
      have hap := fun s => all_presses_m (s := s) ok (k := k - 1) (by omega) ho hm
      obtain ⟨fl, s2, e3, q1, h⟩ := sat_ex (tf_a (s := s') (k := k - 1) ok ho hm0 hm (x0 := .sh (rawD R)) (x1 := .sh (.int m)) (x4 := y4) (x5 := y5) (x6 := y6) (x7 := y7))
      subst q1
      rcases h with ⟨rfl, h⟩ | ⟨z3, z4, z5, z6, z7, rfl, h⟩
      · simp [b56_1, IR.exec, ev, evs, evp, itM, setL, mkSlot, mdOf, frzE, retOk, isC, asgP_n, asgP_t, asgPs_nil, asgPs_cons, isNop_nop, isNop_rv, isNop_v, isNop_c, isNop_bin, isNop_call, isNop_sub, isNop_bi, flatO, flatD, isTs, isT, objOk, isNonD, wipeE, cmpD, binD, biD, subD, slD, isDct, isLst, -List.length_flatMap, -List.map_drop, -List.map_take, hap, e3, h]
      · simp only [b56_1, IR.exec, ev, evs, evp, itM, setL, mkSlot, mdOf, frzE, retOk, isC, asgP_n, asgP_t, asgPs_nil, asgPs_cons, isNop_nop, isNop_rv, isNop_v, isNop_c, isNop_bin, isNop_call, isNop_sub, isNop_bi, flatO, flatD, isTs, isT, objOk, isNonD, wipeE, cmpD, binD, biD, subD, slD, isDct, isLst, Bool.false_eq_true, and_self, if_false, if_true, bind_ok, of_some, onB_bl, boolO_bl, intO, List.getElem?_cons_succ, List.getElem?_cons_zero, List.set_cons_zero, List.set_cons_succ, sat_ok, aft_nx, aft_rt, aft_ct, aft_bk, Option.map_some, endO_rt, endO_nx, evs, fl55, hap, e3]
        refine ⟨trivial, .sh (.str one), z3, z4, z5, z6, z7, by simp, fun o ho2 => ?_⟩
        rcases List.mem_append.mp ho2 with h2 | h2
        · exact I o h2
        · obtain rfl := List.mem_singleton.mp h2
          exact h
    · rintro ρ s' ⟨q1, x2, x3, x4, x5, x6, x7, q2, I⟩
      subst q1
      subst q2
      refine ⟨rfl, .inr ⟨_, rfl, ?_⟩⟩
      rintro ⟨s, hs, ps, qs, ws, h, u, l1, l2, h1, h2, hne⟩
      exact hne (I s hs (ps, ws, h) ((mem_AP ok).mpr ⟨l1, h1⟩) (qs, ws, u) ((mem_AP ok).mpr ⟨l2, h2⟩) rfl)
  obtain ⟨fl, s2, e3, q1, h⟩ := sat_ex hs
  subst q1
  have s0 := sub_raw0 R
  unfold subD rawD at s0
  rcases h with ⟨rfl, h⟩ | ⟨ρ, rfl, h⟩
  · refine ⟨true, ?_, fun _ => h, fun _ => rfl⟩
    rw [run56 (by omega)]
    simp [f56, IR.exec, itM, ev, sub_raw0, e3]
  · refine ⟨false, ?_, fun h => (nomatch h), fun h2 => absurd h2 h⟩
    rw [run56 (by omega)]
    simp [f56, IR.exec, itM, ev, sub_raw0, e3, t56_2, retOk]
end
end K94
end
section
set_option Elab.async false
set_option linter.all false
set_option maxRecDepth 100000
set_option maxHeartbeats 4100000
namespace K94
open L2 IR
open PySem (Str PyData)
section
variable {k : Nat} {s : DS} {R : Raw}
theorem box_new (ok : RawOk R) (hk : 23 ≤ k) : callM Γ tb k 15 [.lst (R.st.map .str), .lst (R.bt.map .str), .lst (R.rw.map rowD)] s = .ok (boxD R) s := by
  rw [callM_prim (tb := tb) rfl hk (by omega) rfl]
  have e1 := wrong_names_ok sm0 (s := s) (k := 20) (by omega) ok.stw ok.stn ok.st0
  have e2 := wrong_names_ok sm0 (s := s) (k := 20) (by omega) ok.btw ok.btn ok.bt0
  have e3 := wrong_rows_ok sm0 (s := s) (k := 20) (by omega) ok
  have f1 : Γ0.fl 11 = true := rfl
  have f2 : Γ0.fl 14 = true := rfl
  have hd : dcM true (.n 5) [.no, .sh (.lst (R.st.map .str)), .sh (.lst (R.bt.map .str)), .sh (.lst (R.rw.map rowD)), .sh .non, .no] (fun ρ s => .ok (.bl true) s)
      (fun ρ s => ev Γ0 (callM Γ0 tb0 20) (.tup (.cons (.sub (.rv 5) (.c (.int 0))) (.cons (.sub (.rv 5) (.c (.int 1))) .nil))) ρ s) (fun ρ s => ev Γ0 (callM Γ0 tb0 20) (.tup (.cons (.sub (.rv 5) (.c (.int 2))) (.cons (.sub (.rv 5) (.c (.int 3))) .nil))) ρ s) (R.rw.map rowD) [] s = .ok (tabD R) s := by
    have := dcM_pure (t := true) (p := .n 5) (ρ := [.no, .sh (.lst (R.st.map .str)), .sh (.lst (R.bt.map .str)), .sh (.lst (R.rw.map rowD)), .sh .non, .no]) (cnd := fun ρ s => .ok (.bl true) s)
      (kx := fun ρ s => ev Γ0 (callM Γ0 tb0 20) (.tup (.cons (.sub (.rv 5) (.c (.int 0))) (.cons (.sub (.rv 5) (.c (.int 1))) .nil))) ρ s) (vx := fun ρ s => ev Γ0 (callM Γ0 tb0 20) (.tup (.cons (.sub (.rv 5) (.c (.int 2))) (.cons (.sub (.rv 5) (.c (.int 3))) .nil))) ρ s)
      (enc := rowD) (xs := R.rw) (s := s) (acc := []) (fun r => pD (rkey r)) (fun r => pD (rval r)) (fun r => kyP (rkey r))
      (fun r => [.no, .sh (.lst (R.st.map .str)), .sh (.lst (R.bt.map .str)), .sh (.lst (R.rw.map rowD)), .sh .non, .sh (rowD r)]) (fun r hr => by
        have s0 := sub_row0 r
        have s1 := sub_row1 r
        have s2 := sub_row2 r
        have s3 := sub_row3 r
        refine ⟨rfl, rfl, ?_, ?_, rfl, rfl⟩
        · simp [ev, evs, s0, s1, pD, rkey]
        · simp [ev, evs, s2, s3, pD, rval]) (by
        have := ok.key
        rw [List.map_nil, List.nil_append]
        have e : R.rw.map (fun r => kyP (rkey r)) = (R.rw.map rkey).map kyP := by simp
        rw [e]
        refine List.Pairwise.map kyP (fun a b h e => h (kyP_inj e)) this) (by have := ok.rwl; exact le_lim (by simp; omega))
    rw [this]
    rfl
  have eg3 : ev Γ0 (callM Γ0 tb0 20) bg3 [.no, .sh (.lst (R.st.map .str)), .sh (.lst (R.bt.map .str)), .sh (.lst (R.rw.map rowD)), .sh .non, .no] s = .ok (.dct true (tabD R)) s := by
    have hi : itM Γ0 (callM Γ0 tb0 20) (.l (.v 3)) [.no, .sh (.lst (R.st.map .str)), .sh (.lst (R.bt.map .str)), .sh (.lst (R.rw.map rowD)), .sh .non, .no] s = .ok (R.rw.map rowD) s := by simp [itM, ev]
    unfold bg3
    rw [ev, hi, bind_ok]
    simp only [isNop_nop, if_true]
    exact congrArg (fun x : Out (List (Ky × D)) => x.bind fun kvs s => Out.ok (D.dct true kvs) s) hd
  show boxM Γ0 (callM Γ0 tb0 20) 7 "_states" "_buttons" "_table" be1 be2 be3 bg1 bg2 bg3 _ s = _
  rw [boxM]
  generalize bg3 = g3 at eg3 ⊢
  simp only [be1, be2, be3, bg1, bg2, ev, evs, List.getElem?_cons_succ, List.getElem?_cons_zero, bind_ok, f1, f2, if_true, e1, e2, e3, flatO, flatD, isNonD, biD, of_some, eg3]
  rfl
theorem copy_str (hk : 1 ≤ k) (x : Str) : callM Γ tb k 47 [.str x] s = .ok (.str x) s := by
  rw [run47 (by omega)]
  simp [f47, IR.exec, ev, evs, evp, itM, setL, mkSlot, mdOf, frzE, retOk, isC, asgP_n, asgP_t, asgPs_nil, asgPs_cons, isNop_nop, isNop_rv, isNop_v, isNop_c, isNop_bin, isNop_call, isNop_sub, isNop_bi, flatO, flatD, isTs, isT, objOk, isNonD, wipeE, cmpD, binD, biD, subD, slD, isDct, isLst, -List.length_flatMap, -List.map_drop, -List.map_take]
theorem copy_list (hk : 1 ≤ k) {α : Type} {enc : α → D} {xs : List α} (hl : xs.length ≤ lim) (h : ∀ x ∈ xs, callM Γ tb (k - 1) 47 [enc x] s = .ok (enc x) s) : callM Γ tb k 47 [.lst (xs.map enc)] s = .ok (.lst (xs.map enc)) s := by
  have hlc : lcM (.n 3) [.sh (.lst (xs.map enc)), .no, .no, .no] (fun ρ s => .ok (.bl true) s) (fun ρ s => ev Γ (callM Γ tb (k - 1)) e47_0 ρ s) (xs.map enc) s = .ok (xs.map enc) s := by
    refine lcM_map (enc := enc) (xs := xs) (p := .n 3) (ρ := [.sh (.lst (xs.map enc)), .no, .no, .no]) enc (fun x => [.sh (.lst (xs.map enc)), .no, .no, .sh (enc x)]) fun x hx => ⟨rfl, ?_⟩
    simp [e47_0, ev, evs, h x hx]
  rw [run47 (by omega)]
  simp [f47, IR.exec, ev, evs, evp, itM, setL, mkSlot, mdOf, frzE, retOk, isC, asgP_n, asgP_t, asgPs_nil, asgPs_cons, isNop_nop, isNop_rv, isNop_v, isNop_c, isNop_bin, isNop_call, isNop_sub, isNop_bi, flatO, flatD, isTs, isT, objOk, isNonD, wipeE, cmpD, binD, biD, subD, slD, isDct, isLst, -List.length_flatMap, -List.map_drop, -List.map_take, hlc, hl]
theorem copy_tup (hk : 1 ≤ k) {α : Type} {enc : α → D} {xs : List α} (hl : xs.length ≤ lim) (h : ∀ x ∈ xs, callM Γ tb (k - 1) 47 [enc x] s = .ok (enc x) s) : callM Γ tb k 47 [.tup (xs.map enc)] s = .ok (.tup (xs.map enc)) s := by
  have hlc : lcM (.n 3) [.sh (.tup (xs.map enc)), .no, .no, .no] (fun ρ s => .ok (.bl true) s) (fun ρ s => ev Γ (callM Γ tb (k - 1)) e47_1 ρ s) (xs.map enc) s = .ok (xs.map enc) s := by
    refine lcM_map (enc := enc) (xs := xs) (p := .n 3) (ρ := [.sh (.tup (xs.map enc)), .no, .no, .no]) enc (fun x => [.sh (.tup (xs.map enc)), .no, .no, .sh (enc x)]) fun x hx => ⟨rfl, ?_⟩
    simp [e47_1, ev, evs, h x hx]
  rw [run47 (by omega)]
  simp [f47, IR.exec, ev, evs, evp, itM, setL, mkSlot, mdOf, frzE, retOk, isC, asgP_n, asgP_t, asgPs_nil, asgPs_cons, isNop_nop, isNop_rv, isNop_v, isNop_c, isNop_bin, isNop_call, isNop_sub, isNop_bi, flatO, flatD, isTs, isT, objOk, isNonD, wipeE, cmpD, binD, biD, subD, slD, isDct, isLst, -List.length_flatMap, -List.map_drop, -List.map_take, hlc, hl]
theorem copy_raw (ok : RawOk R) (hk : 5 ≤ k) : callM Γ tb k 47 [rawD R] s = .ok (rawD R) s := by
  have h1 := ok.stl
  have h2 := ok.btl
  have h3 := ok.rwl
  have e1 := copy_list (k := k - 1) (s := s) (by omega) (enc := D.str) (xs := R.st) (le_lim (by omega)) fun x _ => copy_str (by omega) x
  have e2 := copy_list (k := k - 1) (s := s) (by omega) (enc := D.str) (xs := R.bt) (le_lim (by omega)) fun x _ => copy_str (by omega) x
  have e3 := copy_list (k := k - 1) (s := s) (by omega) (enc := rowD) (xs := R.rw) (le_lim (by omega)) fun r _ =>
    copy_tup (k := k - 1 - 1) (s := s) (by omega) (enc := D.str) (xs := [r.1, r.2.1, r.2.2.1, r.2.2.2]) (by simp) fun x _ => copy_str (by omega) x
  have := copy_list (k := k) (s := s) (by omega) (enc := id) (xs := [.lst (R.st.map .str), .lst (R.bt.map .str), .lst (R.rw.map rowD)]) (by simp) fun x hx => by
    simp only [List.mem_cons, List.mem_nil_iff, or_false] at hx
    rcases hx with rfl | rfl | rfl
    · exact e1
    · exact e2
    · exact e3
  rw [List.map_id] at this
  exact this
theorem box_of_m (ok : RawOk R) (hk : 24 ≤ k) : callM Γ tb k 51 [rawD R] s = .ok (boxD R) s := by
  rw [run51 (by omega)]
  have e1 := fun s => copy_raw (s := s) ok (k := k - 1) (by omega)
  have e2 := fun s => box_new (s := s) ok (k := k - 1) (by omega)
  simp [f51, IR.exec, ev, evs, mkSlot, mdOf, isC, e1, e2, sub_raw0, sub_raw1, sub_raw2, retOk]
theorem same_str (hk : 1 ≤ k) {x : Str} (h : okS x) : callM Γ tb k 46 [.str x, .str x] s = .ok (.bl true) s := by
  rw [run46 (by omega)]
  have heq := eqD_str h h
  rw [decide_eq_true rfl] at heq
  simp [f46, IR.exec, ev, evs, evp, itM, setL, mkSlot, mdOf, frzE, retOk, isC, asgP_n, asgP_t, asgPs_nil, asgPs_cons, isNop_nop, isNop_rv, isNop_v, isNop_c, isNop_bin, isNop_call, isNop_sub, isNop_bi, flatO, flatD, isTs, isT, objOk, isNonD, wipeE, cmpD, binD, biD, subD, slD, isDct, isLst, -List.length_flatMap, -List.map_drop, -List.map_take, heq]
theorem same_list (hk : 1 ≤ k) {α : Type} {enc : α → D} {xs : List α} (hl : xs.length ≤ lim) (h : ∀ x ∈ xs, callM Γ tb (k - 1) 46 [enc x, enc x] s = .ok (.bl true) s) : callM Γ tb k 46 [.lst (xs.map enc), .lst (xs.map enc)] s = .ok (.bl true) s := by
  have hz : ((xs.map enc).zip (xs.map enc)).map (fun q => D.tup [q.1, q.2]) = xs.map fun x => .tup [enc x, enc x] := by
    rw [List.zip_map']
    simp
  have hlc : lcM (.t (.cons (.n 3) (.cons (.n 4) .nil))) [.sh (.lst (xs.map enc)), .sh (.lst (xs.map enc)), .no, .no, .no] (fun ρ s => .ok (.bl true) s) (fun ρ s => ev Γ (callM Γ tb (k - 1)) e46_0 ρ s) (xs.map fun x => .tup [enc x, enc x]) s = .ok (xs.map fun _ => .bl true) s := by
    refine lcM_map (enc := fun x => .tup [enc x, enc x]) (xs := xs) (p := .t (.cons (.n 3) (.cons (.n 4) .nil))) (ρ := [.sh (.lst (xs.map enc)), .sh (.lst (xs.map enc)), .no, .no, .no]) (fun _ => .bl true) (fun x => [.sh (.lst (xs.map enc)), .sh (.lst (xs.map enc)), .no, .sh (enc x), .sh (enc x)]) fun x hx => ⟨rfl, ?_⟩
    simp [e46_0, ev, evs, h x hx, flatO, flatD]
  rw [run46 (by omega)]
  simp [f46, IR.exec, ev, evs, evp, itM, setL, mkSlot, mdOf, frzE, retOk, isC, asgP_n, asgP_t, asgPs_nil, asgPs_cons, isNop_nop, isNop_rv, isNop_v, isNop_c, isNop_bin, isNop_call, isNop_sub, isNop_bi, flatO, flatD, isTs, isT, objOk, isNonD, wipeE, cmpD, binD, biD, subD, slD, isDct, isLst, -List.length_flatMap, -List.map_drop, -List.map_take, eqD_bl, eqD_int, hz, hlc, hl, blsOf_true]
theorem is_number_m (hk : 1 ≤ k) (n : Nat) : callM Γ tb k 48 [.int n] s = .ok (.bl true) s := by
  rw [run48 (by omega)]
  simp [f48, IR.exec, ev, evs, evp, itM, setL, mkSlot, mdOf, frzE, retOk, isC, asgP_n, asgP_t, asgPs_nil, asgPs_cons, isNop_nop, isNop_rv, isNop_v, isNop_c, isNop_bin, isNop_call, isNop_sub, isNop_bi, flatO, flatD, isTs, isT, objOk, isNonD, wipeE, cmpD, binD, biD, subD, slD, isDct, isLst, -List.length_flatMap, -List.map_drop, -List.map_take]
end
end K94
end
section
set_option Elab.async false
set_option linter.all false
set_option maxRecDepth 100000
set_option maxHeartbeats 4100000
namespace K94
open L2 IR
open PySem (Str PyData)
section
variable {k : Nat} {s : DS}
theorem pick_m (hk : 1 ≤ k) (m : Int) : callM Γ tb k 42 [.st, .int m] s = pickS m s := by
  rw [callM_prim (tb := tb) rfl (by omega) (by omega) rfl]
  rfl
theorem between_m (hk : 2 ≤ k) {b : Nat} (hG : GB (b + 1) s) {lo hi : Int} (h : lo ≤ hi) (h2 : hi - lo < 100000) : ∃ i s', callM Γ tb k 43 [.st, .int lo, .int hi] s = .ok (.int i) s' ∧ lo ≤ i ∧ i ≤ hi ∧ GB b s' := by
  have e0 : (if (0 : Int) > hi - lo then 0 else hi - lo) = hi - lo := if_neg (by omega)
  obtain ⟨i, s', e, h3, h4, hG'⟩ := pick_ok (m := hi - lo + 1) hG (by omega) (by omega)
  refine ⟨lo + i, s', ?_, by omega, by omega, hG'⟩
  rw [run43 (by omega)]
  simp only [f43, IR.exec, ev, evs, evp, itM, setL, mkSlot, mdOf, frzE, retOk, isC, asgP_n, asgP_t, asgPs_nil, asgPs_cons, isNop_nop, isNop_rv, isNop_v, isNop_c, isNop_bin, isNop_call, isNop_sub, isNop_bi, flatO, flatD, isTs, isT, objOk, isNonD, wipeE, cmpD, binD, biD, subD, slD, isDct, isLst, Bool.false_eq_true, and_self, if_false, if_true, bind_ok, of_some, onB_bl, boolO_bl, intO, List.getElem?_cons_succ, List.getElem?_cons_zero, List.set_cons_zero, List.set_cons_succ, sat_ok, aft_nx, aft_rt, aft_ct, aft_bk, Option.map_some, endO_rt, endO_nx, evs, fl42, pick_m (k := k - 1) (show 1 ≤ k - 1 by omega), e0, e]
  simp
theorem one_m (hk : 2 ≤ k) {b : Nat} (hG : GB (b + 1) s) {ds : List D} (h0 : ds ≠ []) (h2 : ds.length ≤ 1000) : ∃ d s', callM Γ tb k 44 [.st, .lst ds] s = .ok d s' ∧ d ∈ ds ∧ GB b s' := by
  have hl := List.length_pos_iff.mpr h0
  obtain ⟨i, s', e, h3, h4, hG'⟩ := pick_ok (m := ds.length) hG (by omega) (by omega)
  obtain ⟨n, rfl⟩ : ∃ n : Nat, i = n := ⟨i.toNat, by omega⟩
  have hn : n < ds.length := by omega
  have hat : atI ds ((n : Nat) : Int) = some ds[n] := atI_nat (List.getElem?_eq_getElem hn)
  refine ⟨ds[n], s', ?_, List.getElem_mem hn, hG'⟩
  rw [run44 (by omega)]
  simp only [f44, IR.exec, ev, evs, evp, itM, setL, mkSlot, mdOf, frzE, retOk, isC, asgP_n, asgP_t, asgPs_nil, asgPs_cons, isNop_nop, isNop_rv, isNop_v, isNop_c, isNop_bin, isNop_call, isNop_sub, isNop_bi, flatO, flatD, isTs, isT, objOk, isNonD, wipeE, cmpD, binD, biD, subD, slD, isDct, isLst, Bool.false_eq_true, and_self, if_false, if_true, bind_ok, of_some, onB_bl, boolO_bl, intO, List.getElem?_cons_succ, List.getElem?_cons_zero, List.set_cons_zero, List.set_cons_succ, sat_ok, aft_nx, aft_rt, aft_ct, aft_bk, Option.map_some, endO_rt, endO_nx, evs, fl42, pick_m (k := k - 1) (show 1 ≤ k - 1 by omega), e, hat]
  simp
theorem mixed_m (hk : 2 ≤ k) {b : Nat} {ds : List D} (hG : GB (b + ds.length) s) (h2 : ds.length ≤ 1000) : ∃ es s', callM Γ tb k 45 [.st, .lst ds] s = .ok (.lst es) s' ∧ es.length = ds.length ∧ (∀ d ∈ es, d ∈ ds) ∧ GB b s' := by
  have hs : Sat (forM (fun ρ s => IR.exec Γ (callM Γ tb (k - 1)) true fuelW b45_0 ρ s) (.n 2) ((List.range ds.length).map fun (i : Nat) => D.int (0 + (i : Int))) [.sh .st, .sh (.lst ds), .no, .own (.lst ds), .own (.lst [])] s)
      (fun fl s' => GB b s' ∧ ∃ x2 x3 es, fl = .nx [.sh .st, .sh (.lst ds), x2, x3, .own (.lst es)] ∧ es.length = ds.length ∧ ∀ d ∈ es, d ∈ ds) := by
    refine forM_sat (fun pre ρ s' => GB (b + (ds.length - pre.length)) s' ∧ ∃ x2 left es, ρ = [.sh .st, .sh (.lst ds), x2, .own (.lst left), .own (.lst es)] ∧ es.length = pre.length ∧ left.length = ds.length - pre.length ∧ (∀ d ∈ es, d ∈ ds) ∧ ∀ d ∈ left, d ∈ ds) ⟨by simpa using hG, .no, ds, [], rfl, rfl, by simp, fun d h => (nomatch h), fun d h => h⟩ ?_ ?_
    · rintro pre i post ρ s' e ⟨hG1, y2, left, es, q2, h3, h4, h5, h6⟩
      subst q2
      refine ⟨_, rfl, ?_⟩
      have hpl : pre.length < ds.length := by
        have := congrArg List.length e
        simp at this
        omega
      obtain ⟨j, s2, e2, h7, h8, hG2⟩ := pick_ok (b := b + (ds.length - (pre.length + 1))) (m := left.length) (hG1.mono (by omega)) (by omega) (by omega)
      obtain ⟨n, rfl⟩ : ∃ n : Nat, j = n := ⟨j.toNat, by omega⟩
      have hn : n < left.length := by omega
      have hg : left[n]? = some left[n] := List.getElem?_eq_getElem hn
      have hc : 0 ≤ ((n : Nat) : Int) ∧ ((n : Nat) : Int) ≤ (lim : Nat) ∧ es.length < lim := ⟨by omega, Int.ofNat_le.mpr (le_lim (by omega)), lt_lim (by omega)⟩
      have h43 : (4 : Nat) = 3 ↔ False := by decide
      simp only [b45_0, IR.exec, ev, evs, List.getElem?_cons_succ, List.getElem?_cons_zero, List.set_cons_succ, List.set_cons_zero, h43, if_false, bind_ok, biD, of_some, fl42, if_true, pick_m (k := k - 1) (show 1 ≤ k - 1 by omega), e2, flatO, flatD, if_pos hc, Int.toNat_natCast, hg, sat_ok, aft_nx]
      refine ⟨by rw [List.length_append]; simpa using hG2, _, _, _, rfl, ?_, ?_, ?_, ?_⟩
      · simp [h3]
      · rw [List.length_eraseIdx_of_lt hn, h4, List.length_append]
        simp
        omega
      · intro d hd
        rcases List.mem_append.mp hd with hd | hd
        · exact h5 d hd
        · rw [List.mem_singleton.mp hd]
          exact h6 _ (List.getElem_mem hn)
      · exact fun d hd => h6 d (List.mem_of_mem_eraseIdx hd)
    · rintro ρ s' ⟨hG1, y2, left, es, q2, h3, h4, h5, h6⟩
      subst q2
      rw [List.length_range] at hG1 h3
      exact ⟨by simpa using hG1, _, _, es, rfl, h3, h5⟩
  obtain ⟨fl, s2, e3, hG2, x2, x3, es, q2, h3, h5⟩ := sat_ex hs
  subst q2
  refine ⟨es, s2, ?_, h3, h5, hG2⟩
  have hit : itM Γ (callM Γ tb (k - 1)) (.r1 (.bi .len (.cons (.rv 3) .nil))) [.sh .st, .sh (.lst ds), .no, .own (.lst ds), .own (.lst [])] s = .ok (rangeD 0 ds.length) s := itM_r1 (by simp [ev, evs, biD]) (by omega)
  have e3' : forM (fun ρ s => IR.exec Γ (callM Γ tb (k - 1)) true fuelW b45_0 ρ s) (.n 2) (rangeD 0 ds.length) [.sh .st, .sh (.lst ds), .no, .own (.lst ds), .own (.lst [])] s = .ok (.nx [.sh .st, .sh (.lst ds), x2, x3, .own (.lst es)]) s2 := e3
  rw [run45 (by omega), f45, IR.exec, show IR.exec Γ (callM Γ tb (k - 1)) true fuelW (.par [3, 4] (.cons (.bi .list (.cons (.rv 1) .nil)) (.cons (.lst .nil) .nil))) [.sh .st, .sh (.lst ds), .no, .no, .no] s = .ok (.nx [.sh .st, .sh (.lst ds), .no, .own (.lst ds), .own (.lst [])]) s by simp [IR.exec, ev, evs, evp, itM, setL, mkSlot, mdOf, frzE, retOk, isC, asgP_n, asgP_t, asgPs_nil, asgPs_cons, isNop_nop, isNop_rv, isNop_v, isNop_c, isNop_bin, isNop_call, isNop_sub, isNop_bi, flatO, flatD, isTs, isT, objOk, isNonD, wipeE, cmpD, binD, biD, subD, slD, isDct, isLst, -List.length_flatMap, -List.map_drop, -List.map_take], bind_ok]
  dsimp only
  rw [IR.exec, IR.exec, hit, bind_ok, e3', bind_ok]
  simp [IR.exec, ev, evs, evp, itM, setL, mkSlot, mdOf, frzE, retOk, isC, asgP_n, asgP_t, asgPs_nil, asgPs_cons, isNop_nop, isNop_rv, isNop_v, isNop_c, isNop_bin, isNop_call, isNop_sub, isNop_bi, flatO, flatD, isTs, isT, objOk, isNonD, wipeE, cmpD, binD, biD, subD, slD, isDct, isLst, -List.length_flatMap, -List.map_drop, -List.map_take, t45_1]
theorem free_word_m (hk : 1 ≤ k) {taken : List Str} (ht : ∀ x ∈ taken, okW x) (hl : taken.length ≤ 90) {w : Str} (hw : okW w) : ∃ w', callM Γ tb k 49 [.lst (taken.map .str), .str w] s = .ok (.str w') s ∧ okW w' ∧ ¬ w' ∈ taken := by
  have hs : Sat (forM (fun ρ s => IR.exec Γ (callM Γ tb (k - 1)) false fuelW b49_0 ρ s) (.n 2) ((List.range 600).map fun (i : Nat) => D.int (0 + (i : Int))) [.sh (.lst (taken.map .str)), .sh (.str w), .no] s)
      (fun fl s' => s' = s ∧ ∃ w', fl = .rt (.str w') ∧ okW w' ∧ ¬ w' ∈ taken) := by
    refine forM_sat (fun pre ρ s' => s' = s ∧ ∃ w x2, ρ = [.sh (.lst (taken.map .str)), .sh (.str w), x2] ∧ okW w ∧ (∀ j, j + 1 < pre.length → cand j ∈ taken) ∧ (0 < pre.length → w = cand (pre.length - 1))) ⟨rfl, w, .no, rfl, hw, fun j h => by simp at h, fun h => by simp at h⟩ ?_ ?_
    · rintro pre i post ρ s' e ⟨q1, u, y2, q2, hu, h1, h2⟩
      subst q1
      subst q2
      refine ⟨_, rfl, ?_⟩
      have hi : i = pre.length := by
        have h3 := congrArg (fun l => l[pre.length]?) e
        simp only [List.getElem?_append_right (Nat.le_refl _), Nat.sub_self, List.getElem?_cons_zero] at h3
        have := List.getElem?_eq_some_iff.mp h3
        obtain ⟨h4, h5⟩ := this
        simpa using h5.symm
      have hil : i < 600 := by
        have : i ∈ List.range 600 := by rw [e]; simp
        exact List.mem_range.mp this
      have hin := inD_strs hu.s fun x hx => (ht x hx).s
      by_cases hm : u ∈ taken
      · rw [decide_eq_true hm] at hin
        have e1 : (0 + (i : Int)) % 4 = ((i % 4 : Nat) : Int) := by omega
        have e2 : (0 + (i : Int)) / 4 % 26 = ((i / 4 % 26 : Nat) : Int) := by omega
        have e3 : (0 + (i : Int)) / 104 = ((i / 104 : Nat) : Int) := by omega
        have c1 := cand_q i
        have c2 := cand_az i
        have c3 := cand_aj hil
        have la1 : (⟨#[[113, 120, 121, 122].getD (i % 4) 113]⟩ : Str).length + (⟨#[97 + i / 4 % 26]⟩ : Str).length ≤ lim := le_lim (by simp [PySem.Str.length])
        have la2 : ((⟨#[[113, 120, 121, 122].getD (i % 4) 113]⟩ : Str) ++ (⟨#[97 + i / 4 % 26]⟩ : Str)).length + (⟨#[97 + i / 104]⟩ : Str).length ≤ lim := le_lim (by rw [app_len]; simp [PySem.Str.length])
        have p1 : (0 : Int) < 4 := by decide
        have p2 : (0 : Int) < 4 ∧ (4 : Int) < 1073741824 := by decide
        have p3 : (0 : Int) < 26 := by decide
        have p4 : (0 : Int) < 104 ∧ (104 : Int) < 1073741824 := by decide
        have b1 : binD .mod (.int (0 + (i : Int))) (.int 4) = some (.int ((i % 4 : Nat) : Int)) := by
          simp only [binD, if_pos p1, e1]
        have b2 : binD .fdiv (.int (0 + (i : Int))) (.int 4) = some (.int ((0 + (i : Int)) / 4)) := by
          simp only [binD, if_pos p2]
        have b3 : binD .mod (.int ((0 + (i : Int)) / 4)) (.int 26) = some (.int ((i / 4 % 26 : Nat) : Int)) := by
          simp only [binD, if_pos p3, e2]
        have b4 : binD .fdiv (.int (0 + (i : Int))) (.int 104) = some (.int ((i / 104 : Nat) : Int)) := by
          simp only [binD, if_pos p4, e3]
        have b5 : binD .add (.str ⟨#[[113, 120, 121, 122].getD (i % 4) 113]⟩) (.str ⟨#[97 + i / 4 % 26]⟩) = some (.str ((⟨#[[113, 120, 121, 122].getD (i % 4) 113]⟩ : Str) ++ (⟨#[97 + i / 4 % 26]⟩ : Str))) := by
          simp only [binD, if_pos la1]
        have b6 : binD .add (.str ((⟨#[[113, 120, 121, 122].getD (i % 4) 113]⟩ : Str) ++ (⟨#[97 + i / 4 % 26]⟩ : Str))) (.str ⟨#[97 + i / 104]⟩) = some (.str (cand i)) := by
          simp only [binD, if_pos la2, cand_app]
        simp only [b49_0, IR.exec, ev, List.getElem?_cons_succ, List.getElem?_cons_zero, List.set_cons_succ, List.set_cons_zero, bind_ok, cmpD, hin, Option.map_some, Bool.not_true, of_some, onB_bl, Bool.false_eq_true, if_false, b1, b2, b3, b4, c1, c2, c3, b5, b6, mkSlot, mdOf, isC, and_false, sat_ok, aft_nx, true_and]
        refine ⟨cand i, _, rfl, cand_w hil, fun j hj => ?_, fun _ => ?_⟩
        · rw [List.length_append] at hj
          simp at hj
          by_cases hj2 : j + 1 < pre.length
          · exact h1 j hj2
          · have := h2 (by omega)
            have e5 : j = pre.length - 1 := by omega
            rw [e5, ← this]
            exact hm
        · rw [List.length_append, hi]
          rfl
      · rw [decide_eq_false hm] at hin
        simp [b49_0, IR.exec, ev, evs, evp, itM, setL, mkSlot, mdOf, frzE, retOk, isC, asgP_n, asgP_t, asgPs_nil, asgPs_cons, isNop_nop, isNop_rv, isNop_v, isNop_c, isNop_bin, isNop_call, isNop_sub, isNop_bi, flatO, flatD, isTs, isT, objOk, isNonD, wipeE, cmpD, binD, biD, subD, slD, isDct, isLst, -List.length_flatMap, -List.map_drop, -List.map_take, hin, hu, hm]
    · rintro ρ s' ⟨q1, u, y2, q2, hu, h1, h2⟩
      exfalso
      rw [List.length_range] at h1
      exact cand_out hl fun j hj => h1 j (by omega)
  obtain ⟨fl, s2, e3, q1, w', q2, h1, h2⟩ := sat_ex hs
  subst q1
  subst q2
  refine ⟨w', ?_, h1, h2⟩
  have hit : itM Γ (callM Γ tb (k - 1)) (.r1 (.c (.int 600))) [.sh (.lst (taken.map .str)), .sh (.str w), .no] s2 = .ok (rangeD 0 600) s2 := itM_r1 (n := 600) (by simp [ev]) (by omega)
  have e3' : forM (fun ρ s => IR.exec Γ (callM Γ tb (k - 1)) false fuelW b49_0 ρ s) (.n 2) (rangeD 0 600) [.sh (.lst (taken.map .str)), .sh (.str w), .no] s2 = .ok (.rt (.str w')) s2 := e3
  rw [run49 (by omega), f49, IR.exec, IR.exec, hit, bind_ok, e3', bind_ok]
  rfl
end
end K94
end
section
set_option Elab.async false
set_option linter.all false
set_option maxRecDepth 100000
set_option maxHeartbeats 4100000
namespace K94
open L2 IR
open PySem (Str PyData)
section
variable {k : Nat} {s : DS}
/-- a drawn sign, few or many -/
theorem dr_ab (hk : 2 ≤ k) {b : Nat} (hG : GB (b + 1) s) (few : Bool) {ρ : Env} (h0 : ρ[0]? = some (.sh .st)) (h3 : ρ[3]? = some (.sh (.bl few))) : ∃ x s', ev Γ (callM Γ tb (k - 1)) (.ife (.rv 3) (.sub (.c (.str "ab")) (.call 42 (.cons (.rv 0) (.cons (.c (.int 2)) .nil)))) (.sub (.c (.str "abcdefghijklmnopqrstuvwxyz")) (.call 42 (.cons (.rv 0) (.cons (.c (.int 26)) .nil))))) ρ s = .ok (.str x) s' ∧ okL 1 x ∧ x.length = 1 ∧ GB b s' := by
  cases few with
  | true =>
    obtain ⟨i, s', e, h1, h2, hG'⟩ := pick_ok (m := 2) hG (by omega) (by omega)
    obtain ⟨x, hx, hl, hl2⟩ := sign_ab h1 h2
    exact ⟨x, s', by simp [ev, evs, h0, h3, pick_m (k := k - 1) (by omega), e, flatO, flatD, hx], hl, hl2, hG'⟩
  | false =>
    obtain ⟨i, s', e, h1, h2, hG'⟩ := pick_ok (m := 26) hG (by omega) (by omega)
    obtain ⟨x, hx, hl, hl2⟩ := sign_az h1 h2
    exact ⟨x, s', by simp [ev, evs, h0, h3, pick_m (k := k - 1) (by omega), e, flatO, flatD, hx], hl, hl2, hG'⟩
theorem dr_abc (hk : 2 ≤ k) {b : Nat} (hG : GB (b + 1) s) (few : Bool) {ρ : Env} (h0 : ρ[0]? = some (.sh .st)) (h3 : ρ[3]? = some (.sh (.bl few))) : ∃ x s', ev Γ (callM Γ tb (k - 1)) (.ife (.rv 3) (.sub (.c (.str "abc")) (.call 42 (.cons (.rv 0) (.cons (.c (.int 3)) .nil)))) (.sub (.c (.str "abcdefghijklmnopqrstuvwxyz")) (.call 42 (.cons (.rv 0) (.cons (.c (.int 26)) .nil))))) ρ s = .ok (.str x) s' ∧ okL 1 x ∧ x.length = 1 ∧ GB b s' := by
  cases few with
  | true =>
    obtain ⟨i, s', e, h1, h2, hG'⟩ := pick_ok (m := 3) hG (by omega) (by omega)
    obtain ⟨x, hx, hl, hl2⟩ := sign_abc h1 h2
    exact ⟨x, s', by simp [ev, evs, h0, h3, pick_m (k := k - 1) (by omega), e, flatO, flatD, hx], hl, hl2, hG'⟩
  | false =>
    obtain ⟨i, s', e, h1, h2, hG'⟩ := pick_ok (m := 26) hG (by omega) (by omega)
    obtain ⟨x, hx, hl, hl2⟩ := sign_az h1 h2
    exact ⟨x, s', by simp [ev, evs, h0, h3, pick_m (k := k - 1) (by omega), e, flatO, flatD, hx], hl, hl2, hG'⟩
/-- a word grows -/
theorem wd_a (hk : 2 ≤ k) {b n : Nat} (hn : n ≤ 7) (few : Bool) {w : Str} (hw : okL 1 w) {x1 x2 x4 x6 : Slot} (hG : GB (b + n) s) :
    Sat (forM (fun ρ s => IR.exec Γ (callM Γ tb (k - 1)) true fuelW b50_0 ρ s) (.n 6) ((List.range n).map fun (i : Nat) => D.int (0 + (i : Int))) [.sh .st, x1, x2, .sh (.bl few), x4, .sh (.str w), x6] s)
      (fun fl s' => GB b s' ∧ ∃ w x6, fl = .nx [.sh .st, x1, x2, .sh (.bl few), x4, .sh (.str w), x6] ∧ okW w) := by
  refine forM_sat (fun pre ρ s' => GB (b + (n - pre.length)) s' ∧ ∃ w x6, ρ = [.sh .st, x1, x2, .sh (.bl few), x4, .sh (.str w), x6] ∧ okL (1 + pre.length) w) ⟨by simpa using hG, w, x6, rfl, hw⟩ ?_ ?_
  · rintro pre i post ρ s' e ⟨hG1, w, y6, q2, hw⟩
    subst q2
    refine ⟨_, rfl, ?_⟩
    simp only [List.set_cons_succ, List.set_cons_zero]
    have hpl : pre.length < n := by
      have := congrArg List.length e
      simp at this
      omega
    obtain ⟨x, s2, e2, hx, hxl, hG2⟩ := dr_abc (s := s') (k := k) hk (b := b + (n - (pre.length + 1))) (hG1.mono (by omega)) few (ρ := [.sh .st, x1, x2, .sh (.bl few), x4, .sh (.str w), .sh (.int (0 + (i : Int)))]) rfl rfl
    have hl : w.length + x.length ≤ lim := le_lim (by have := hw.2.1; omega)
    have hb : binD .add (.str w) (.str x) = some (.str (w ++ x)) := by simp only [binD, if_pos hl]
    rw [b50_0, IR.exec, IR.exec, ev, show ev Γ (callM Γ tb (k - 1)) (.rv 5) [.sh .st, x1, x2, .sh (.bl few), x4, .sh (.str w), .sh (.int (0 + (i : Int)))] s' = .ok (.str w) s' by simp [ev], bind_ok, e2]
    simp only [bind_ok, hb, of_some, mkSlot, mdOf, isC, Bool.false_eq_true, and_false, if_false, IR.exec, List.set_cons_succ, List.set_cons_zero, sat_ok, aft_nx]
    refine ⟨by rw [List.length_append]; simpa using hG2, w ++ x, _, rfl, ?_⟩
    have := hw.app hx
    rw [List.length_append]
    simpa [Nat.add_assoc] using this
  · rintro ρ s' ⟨hG1, w, y6, q2, hw⟩
    subst q2
    rw [List.length_range] at hG1 hw
    exact ⟨by simpa using hG1, w, y6, rfl, hw.w (by omega)⟩
theorem words_m (hk : 3 ≤ k) {b n : Nat} (hn : n ≤ 90) (hG : GB (b + (9 * n + 1)) s) : ∃ (ws : List Str) (s' : DS), callM Γ tb k 50 [.st, .int n] s = .ok (.lst (ws.map .str)) s' ∧ ws.length = n ∧ ws.Nodup ∧ (∀ w ∈ ws, okW w) ∧ GB b s' := by
  obtain ⟨f, s1, ef, hf1, hf2, hG1⟩ := pick_ok (b := b + 9 * n) (m := 2) (hG.mono (by omega)) (by omega) (by omega)
  have hs : ∀ few : Bool, Sat (forM (fun ρ s => IR.exec Γ (callM Γ tb (k - 1)) true fuelW b50_2 ρ s) (.n 2) ((List.range n).map fun (i : Nat) => D.int (0 + (i : Int))) [.sh .st, .sh (.int n), .no, .sh (.bl few), .own (.lst []), .no, .no] s1)
      (fun fl s' => GB b s' ∧ ∃ ws x2 x5 x6, fl = .nx [.sh .st, .sh (.int n), x2, .sh (.bl few), .own (.lst (List.map D.str ws)), x5, x6] ∧ ws.length = n ∧ ws.Nodup ∧ ∀ w ∈ ws, okW w) := by
    intro few
    refine forM_sat (fun pre ρ s' => GB (b + 9 * (n - pre.length)) s' ∧ ∃ ws x2 x5 x6, ρ = [.sh .st, .sh (.int n), x2, .sh (.bl few), .own (.lst (List.map D.str ws)), x5, x6] ∧ ws.length = pre.length ∧ ws.Nodup ∧ ∀ w ∈ ws, okW w) ⟨by simpa using hG1, [], .no, .no, .no, rfl, rfl, List.nodup_nil, fun w h => (nomatch h)⟩ ?_ ?_
    · rintro pre i post ρ s' e ⟨hG2, ws, y2, y5, y6, q2, hl, hnd, hw⟩
      subst q2
      refine ⟨_, rfl, ?_⟩
      simp only [List.set_cons_succ, List.set_cons_zero]
      have hpl : pre.length < n := by
        have := congrArg List.length e
        simp at this
        omega
      obtain ⟨x, s2, e2, hx, hxl, hG3⟩ := dr_ab (s := s') (k := k) (by omega) (b := b + 9 * (n - (pre.length + 1)) + 8) (hG2.mono (by omega)) few (ρ := [.sh .st, .sh (.int n), .sh (.int (0 + (i : Int))), .sh (.bl few), .own (.lst (List.map D.str ws)), y5, y6]) rfl rfl
      have hmore : ∃ (m : Nat) (s3 : DS), m ≤ 7 ∧ GB (b + 9 * (n - (pre.length + 1)) + 7) s3 ∧ itM Γ (callM Γ tb (k - 1)) (.r1 (.call 42 (.cons (.rv 0) (.cons (.ife (.rv 3) (.c (.int 3)) (.c (.int 8))) .nil)))) [.sh .st, .sh (.int n), .sh (.int (0 + (i : Int))), .sh (.bl few), .own (.lst (List.map D.str ws)), .sh (.str x), y6] s2 = .ok (rangeD 0 m) s3 := by
        cases few with
        | true =>
          obtain ⟨j, s3, e3, h1, h2, hG4⟩ := pick_ok (b := b + 9 * (n - (pre.length + 1)) + 7) (m := 3) hG3 (by omega) (by omega)
          obtain ⟨m, rfl⟩ : ∃ m : Nat, j = m := ⟨j.toNat, by omega⟩
          exact ⟨m, s3, by omega, hG4, itM_r1 (by simp [ev, evs, pick_m (k := k - 1) (by omega), e3, flatO, flatD]) (by omega)⟩
        | false =>
          obtain ⟨j, s3, e3, h1, h2, hG4⟩ := pick_ok (b := b + 9 * (n - (pre.length + 1)) + 7) (m := 8) hG3 (by omega) (by omega)
          obtain ⟨m, rfl⟩ : ∃ m : Nat, j = m := ⟨j.toNat, by omega⟩
          exact ⟨m, s3, by omega, hG4, itM_r1 (by simp [ev, evs, pick_m (k := k - 1) (by omega), e3, flatO, flatD]) (by omega)⟩
      obtain ⟨m, s3, hm, hG4, e3⟩ := hmore
      obtain ⟨fl, s4, e4, hG5, w, y6', q2, hw2⟩ := sat_ex (wd_a (s := s3) (k := k) (by omega) (b := b + 9 * (n - (pre.length + 1))) hm few hx (x1 := .sh (.int n)) (x2 := .sh (.int (0 + (i : Int)))) (x4 := .own (.lst (List.map D.str ws))) (x6 := y6) (hG4.mono (by omega)))
      subst q2
      have e4' : forM (fun ρ s => IR.exec Γ (callM Γ tb (k - 1)) true fuelW b50_0 ρ s) (.n 6) (rangeD 0 m) [.sh .st, .sh (.int n), .sh (.int (0 + (i : Int))), .sh (.bl few), .own (.lst (List.map D.str ws)), .sh (.str x), y6] s3 = .ok (.nx [.sh .st, .sh (.int n), .sh (.int (0 + (i : Int))), .sh (.bl few), .own (.lst (List.map D.str ws)), .sh (.str w), y6']) s4 := e4
      obtain ⟨w', e5, hw3, hw4⟩ := free_word_m (k := k - 1) (s := s4) (by omega) hw (by omega) hw2
      have hlen : (List.map D.str ws).length < lim := lt_lim (by rw [List.length_map]; omega)
      rw [b50_2, IR.exec, IR.exec, e2, bind_ok]
      simp only [mkSlot, mdOf, isC, Bool.false_eq_true, and_false, if_false, bind_ok, List.set_cons_succ, List.set_cons_zero]
      rw [IR.exec, IR.exec, e3, bind_ok, e4', bind_ok]
      simp only [t50_1, IR.exec, ev, evs, List.getElem?_cons_succ, List.getElem?_cons_zero, List.set_cons_succ, List.set_cons_zero, bind_ok, fl49, if_true, e5, flatO, flatD, hlen, sat_ok, aft_nx]
      refine ⟨by rw [List.length_append]; simpa using hG5, ws ++ [w'], .sh (.int (0 + (i : Int))), .sh (.str w), y6', by simp, by simp [hl], ?_, ?_⟩
      · rw [List.nodup_append]
        refine ⟨hnd, by simp, fun a ha c hc ez => ?_⟩
        rw [List.mem_singleton] at hc
        exact hw4 (by rw [← hc, ← ez]; exact ha)
      · intro v hv
        rcases List.mem_append.mp hv with h | h
        · exact hw v h
        · rw [List.mem_singleton.mp h]
          exact hw3
    · rintro ρ s' ⟨hG2, ws, y2, y5, y6, q2, hl, hnd, hw⟩
      subst q2
      rw [List.length_range] at hG2 hl
      exact ⟨by simpa using hG2, ws, y2, y5, y6, rfl, hl, hnd, hw⟩
  obtain ⟨fl, s2, e3, hG2, ws, x2, x5, x6, q2, h1, h2, h3⟩ := sat_ex (hs (decide (f = 0)))
  subst q2
  refine ⟨ws, s2, ?_, h1, h2, h3, hG2⟩
  have hit : itM Γ (callM Γ tb (k - 1)) (.r1 (.rv 1)) [.sh .st, .sh (.int n), .no, .sh (.bl (decide (f = 0))), .own (.lst []), .no, .no] s1 = .ok (rangeD 0 n) s1 := itM_r1 (by simp [ev]) (by omega)
  have e3' : forM (fun ρ s => IR.exec Γ (callM Γ tb (k - 1)) true fuelW b50_2 ρ s) (.n 2) (rangeD 0 n) [.sh .st, .sh (.int n), .no, .sh (.bl (decide (f = 0))), .own (.lst []), .no, .no] s1 = .ok (.nx [.sh .st, .sh (.int n), x2, .sh (.bl (decide (f = 0))), .own (.lst (List.map D.str ws)), x5, x6]) s2 := e3
  have hpar : IR.exec Γ (callM Γ tb (k - 1)) true fuelW (.par [3, 4] (.cons (.cmp .eq (.call 42 (.cons (.rv 0) (.cons (.c (.int 2)) .nil))) (.c (.int 0))) (.cons (.lst .nil) .nil))) [.sh .st, .sh (.int n), .no, .no, .no, .no, .no] s = .ok (.nx [.sh .st, .sh (.int n), .no, .sh (.bl (decide (f = 0))), .own (.lst []), .no, .no]) s1 := by
    simp [IR.exec, ev, evs, evp, itM, setL, mkSlot, mdOf, frzE, retOk, isC, asgP_n, asgP_t, asgPs_nil, asgPs_cons, isNop_nop, isNop_rv, isNop_v, isNop_c, isNop_bin, isNop_call, isNop_sub, isNop_bi, flatO, flatD, isTs, isT, objOk, isNonD, wipeE, cmpD, binD, biD, subD, slD, isDct, isLst, -List.length_flatMap, -List.map_drop, -List.map_take, pick_m (k := k - 1) (show 1 ≤ k - 1 by omega), ef, eqD_int]
  rw [run50 (by omega), f50, IR.exec, hpar, bind_ok]
  dsimp only
  rw [IR.exec, IR.exec, hit, bind_ok, e3', bind_ok]
  simp [IR.exec, ev, evs, evp, itM, setL, mkSlot, mdOf, frzE, retOk, isC, asgP_n, asgP_t, asgPs_nil, asgPs_cons, isNop_nop, isNop_rv, isNop_v, isNop_c, isNop_bin, isNop_call, isNop_sub, isNop_bi, flatO, flatD, isTs, isT, objOk, isNonD, wipeE, cmpD, binD, biD, subD, slD, isDct, isLst, -List.length_flatMap, -List.map_drop, -List.map_take, t50_3]
end
end K94
end
section
set_option Elab.async false
set_option linter.all false
set_option maxRecDepth 100000
set_option maxHeartbeats 4100000
namespace K94
open L2 IR
open PySem (Str PyData)
section
variable {k : Nat} {s : DS} {R : Raw}
theorem sr_a (ok : RawOk R) {st : Str} (hst : st ∈ R.st) {acc : List Row} {x3 x4 : Slot} (hl : acc.length + 512 ≤ lim) :
    Sat (forM (fun ρ s => IR.exec Γ (callM Γ tb k) true fuelW b54_2 ρ s) (.n 3) (R.bt.map .str) [.sh (rawD R), .own (.lst (acc.map rowD)), .sh (.str st), x3, x4] s)
      (fun fl s' => s' = s ∧ ∃ x3 x4, fl = .nx [.sh (rawD R), .own (.lst ((acc ++ srt2 R st).map rowD)), .sh (.str st), x3, x4]) := by
  refine forM_sat (fun pre ρ s' => s' = s ∧ ∃ x3 x4, ρ = [.sh (rawD R), .own (.lst ((acc ++ pre.flatMap (srt1 R st)).map rowD)), .sh (.str st), x3, x4]) ⟨rfl, x3, x4, by simp⟩ ?_ ?_
  · rintro pre b post ρ s' e ⟨q1, y3, y4, q2⟩
    subst q1
    subst q2
    refine ⟨_, rfl, ?_⟩
    simp only [List.set_cons_succ, List.set_cons_zero]
    have hb : b ∈ R.bt := by rw [e]; simp
    have hlc : ev Γ (callM Γ tb k) (.lc [4] e54_0 (.n 4) (.l (.sub (.rv 0) (.c (.int 2)))) c54_1) [.sh (rawD R), .own (.lst ((acc ++ pre.flatMap (srt1 R st)).map rowD)), .sh (.str st), .sh (.str b), y4] s' = .ok (.lst ((srt1 R st b).map rowD)) s' := by
      refine ev_lcc (ds := R.rw.map rowD) (s1 := s') rfl (by simp [itM, ev, sub_raw2]) (by rw [List.length_map]; exact le_lim (by have := ok.rwl; omega)) ?_
      refine lcM_pure (enc := rowD) (xs := R.rw) (p := .n 4) (ρ := [.sh (rawD R), .own (.lst ((acc ++ pre.flatMap (srt1 R st)).map rowD)), .sh (.str st), .sh (.str b), .no]) (fun r => decide (r.1 = st) && decide (r.2.1 = b)) rowD
        (fun r => [.sh (rawD R), .own (.lst ((acc ++ pre.flatMap (srt1 R st)).map rowD)), .sh (.str st), .sh (.str b), .sh (rowD r)]) fun r hr => ⟨rfl, ?_, fun _ => by simp [e54_0, ev]⟩
      have hr' := ok.rws r hr
      have h1 := eqD_str (ok.ss _ hr'.1) (ok.ss _ hst)
      have h2 := eqD_str (ok.bs _ hr'.2.1) (ok.bs _ hb)
      have s0 := sub_row0 r
      have s1 := sub_row1 r
      by_cases h : r.1 = st
      · rw [decide_eq_true h] at h1
        have h3 : eqD (.str st) (.str st) = some true := h ▸ h1
        simp [c54_1, ev, cmpD, s0, s1, h3, h2, h]
      · rw [decide_eq_false h] at h1
        simp [c54_1, ev, cmpD, s0, s1, h1, h]
    have hlen : ((acc ++ pre.flatMap (srt1 R st)).map rowD).length + ((srt1 R st b).map rowD).length ≤ lim := by
      rw [List.length_map, List.length_map, List.length_append]
      have h1 := flatMap_len (xs := pre) (f := srt1 R st) (c := 64) fun x _ => srt1_len ok st x
      have h2 := srt1_len ok st b
      have h3 := congrArg List.length e
      have h4 := ok.btl
      rw [List.length_append, List.length_cons] at h3
      omega
    rw [b54_2, IR.exec, IR.exec]
    simp only [List.getElem?_cons_succ, List.getElem?_cons_zero, hlc, bind_ok, if_pos hlen, List.set_cons_succ, List.set_cons_zero, IR.exec, sat_ok, aft_nx]
    exact ⟨trivial, .sh (.str b), y4, by simp⟩
  · rintro ρ s' ⟨q1, x3, x4, q2⟩
    subst q1
    subst q2
    exact ⟨rfl, x3, x4, rfl⟩
theorem sorted_m (ok : RawOk R) (hk : 1 ≤ k) : callM Γ tb k 54 [rawD R] s = .ok (.lst ((srt R).map rowD)) s := by
  have hs : Sat (forM (fun ρ s => IR.exec Γ (callM Γ tb (k - 1)) true fuelW b54_3 ρ s) (.n 2) (R.st.map .str) [.sh (rawD R), .own (.lst []), .no, .no, .no] s)
      (fun fl s' => s' = s ∧ ∃ x2 x3 x4, fl = .nx [.sh (rawD R), .own (.lst ((srt R).map rowD)), x2, x3, x4]) := by
    refine forM_sat (fun pre ρ s' => s' = s ∧ ∃ x2 x3 x4, ρ = [.sh (rawD R), .own (.lst ((pre.flatMap (srt2 R)).map rowD)), x2, x3, x4]) ⟨rfl, .no, .no, .no, rfl⟩ ?_ ?_
    · rintro pre st post ρ s' e ⟨q1, y2, y3, y4, q2⟩
      subst q1
      subst q2
      refine ⟨_, rfl, ?_⟩
      simp only [List.set_cons_succ, List.set_cons_zero]
      have hst : st ∈ R.st := by rw [e]; simp
      have hlen : (pre.flatMap (srt2 R)).length + 512 ≤ lim := le_lim <| by
        have h1 := flatMap_len (xs := pre) (f := srt2 R) (c := 512) fun x _ => srt2_len ok x
        have h3 := congrArg List.length e
        have h4 := ok.stl
        rw [List.length_append, List.length_cons] at h3
        omega
      obtain ⟨fl, s2, e3, q1, z3, z4, q2⟩ := sat_ex (sr_a (s := s') (k := k - 1) ok hst (acc := pre.flatMap (srt2 R)) (x3 := y3) (x4 := y4) hlen)
      subst q1
      subst q2
      simp only [b54_3, IR.exec, itM, ev, List.getElem?_cons_zero, bind_ok, sub_raw1, of_some, e3, sat_ok, aft_nx]
      exact ⟨trivial, .sh (.str st), z3, z4, by simp⟩
    · rintro ρ s' ⟨q1, x2, x3, x4, q2⟩
      subst q1
      subst q2
      exact ⟨rfl, x2, x3, x4, rfl⟩
  obtain ⟨fl, s2, e3, q1, x2, x3, x4, q2⟩ := sat_ex hs
  subst q1
  subst q2
  rw [run54 (by omega)]
  simp [f54, IR.exec, itM, ev, evs, mkSlot, mdOf, isC, sub_raw0, e3, t54_4, retOk]
theorem nexts_1 (hk : 3 ≤ k) {b many : Nat} (hm : 0 < many) (hm2 : many ≤ 100) (hG : GB (b + (2 * many + 1)) s) : ∃ (ns : List Nat) (s' : DS), callM Γ tb k 52 [.st, .int many, .int 1] s = .ok (.lst (ns.map nI)) s' ∧ ns.length = many ∧ (∀ n ∈ ns, n < many) ∧ GB b s' := by
  have hrl : many ≤ lim := le_lim (by omega)
  obtain ⟨es, s', e, hl, hes, hG'⟩ := mixed_m (k := k - 1) (s := s) (b := b) (ds := rangeD 0 many) (by omega) (hG.mono (by rw [rangeD_len]; omega)) (by rw [rangeD_len]; omega)
  obtain ⟨ns, rfl, hns⟩ := list_enc (enc := nI) (P := fun n => n < many) fun d hd => by
    have := hes d hd
    rw [rangeD_eq] at this
    obtain ⟨i, hi, rfl⟩ := List.mem_map.mp this
    exact ⟨i, rfl, List.mem_range.mp hi⟩
  refine ⟨ns, s', ?_, by simpa using hl, hns, hG'⟩
  have hlr : ev Γ (callM Γ tb (k - 1)) (.lrng (.rv 1)) [.sh .st, .sh (.int many), .sh (.int 1), .no, .no, .no] s = .ok (.lst (rangeD 0 many)) s := ev_lrng (by simp [ev]) (by omega)
  have hcall : ev Γ (callM Γ tb (k - 1)) (.call 45 (.cons (.v 0) (.cons (.lrng (.rv 1)) .nil))) [.sh .st, .sh (.int many), .sh (.int 1), .no, .no, .no] s = .ok (.lst (ns.map nI)) s' := by
    have hv : ev Γ (callM Γ tb (k - 1)) (.v 0) [.sh .st, .sh (.int many), .sh (.int 1), .no, .no, .no] s = .ok .st s := by simp [ev]
    rw [ev, evs, hv, bind_ok, evs, hlr, bind_ok, evs, bind_ok, bind_ok, bind_ok, fl45, if_neg Bool.false_ne_true, e]
  rw [run52 (by omega), f52, IR.exec, IR.exec, show ev Γ (callM Γ tb (k - 1)) (.cmp .eq (.rv 2) (.c (.int 1))) [.sh .st, .sh (.int many), .sh (.int 1), .no, .no, .no] s = .ok (.bl true) s by simp [ev, cmpD, eqD_int], bind_ok, onB_bl, if_pos rfl, IR.exec, IR.exec, hcall]
  simp [retOk, mdOf]
theorem nexts_2 (hk : 3 ≤ k) {b many : Nat} (hm : 0 < many) (hm2 : many ≤ 100) (hG : GB (b + (2 * many + 1)) s) : ∃ (ns : List Nat) (s' : DS), callM Γ tb k 52 [.st, .int many, .int 2] s = .ok (.lst (ns.map nI)) s' ∧ ns.length = many ∧ (∀ n ∈ ns, n < many) ∧ GB b s' := by
  have hrl : many ≤ lim := le_lim (by omega)
  obtain ⟨i, s', e, h3, h4, hG'⟩ := pick_ok (b := b) (m := many) (hG.mono (by omega)) (by omega) (by omega)
  obtain ⟨t, rfl⟩ : ∃ t : Nat, i = t := ⟨i.toNat, by omega⟩
  refine ⟨(List.range many).map fun j => (j + t) % many, s', ?_, by simp, fun n hn => ?_, hG'⟩
  · have hlc : ev Γ (callM Γ tb (k - 1)) (.lc [5] e52_0 (.n 5) (.r1 (.rv 1)) .nop) [.sh .st, .sh (.int many), .sh (.int 2), .no, .sh (.int t), .no] s' = .ok (.lst ((List.range many).map fun j => nI ((j + t) % many))) s' := by
      refine ev_lc (s1 := s') (itM_r1 (n := many) (by simp [ev]) (by omega)) (by rw [rangeD_len]; exact hrl) ?_
      rw [rangeD_eq]
      refine lcM_map (enc := nI) (xs := List.range many) (p := .n 5) (ρ := [.sh .st, .sh (.int many), .sh (.int 2), .no, .sh (.int t), .no]) (fun j => nI ((j + t) % many)) (fun j => [.sh .st, .sh (.int many), .sh (.int 2), .no, .sh (.int t), .sh (nI j)]) fun j hj => ⟨rfl, ?_⟩
      have hp : (0 : Int) < many := by omega
      have hb : binD .mod (.int ((j : Int) + (t : Int))) (.int many) = some (nI ((j + t) % many)) := by
        simp only [binD, if_pos hp]
        rfl
      simp [e52_0, ev, binD, nI, hm]
    have c1 : ev Γ (callM Γ tb (k - 1)) (.cmp .eq (.rv 2) (.c (.int 1))) [.sh .st, .sh (.int many), .sh (.int 2), .no, .no, .no] s = .ok (.bl false) s := by simp [ev, cmpD, eqD_int]
    have c2 : ev Γ (callM Γ tb (k - 1)) (.cmp .eq (.rv 2) (.c (.int 2))) [.sh .st, .sh (.int many), .sh (.int 2), .no, .no, .no] s = .ok (.bl true) s := by simp [ev, cmpD, eqD_int]
    have c3 : ev Γ (callM Γ tb (k - 1)) (.call 42 (.cons (.rv 0) (.cons (.rv 1) .nil))) [.sh .st, .sh (.int many), .sh (.int 2), .no, .no, .no] s = .ok (.int t) s' := by simp [ev, evs, pick_m (k := k - 1) (by omega), e, flatO, flatD]
    rw [run52 (by omega), f52, x_seq (x_iff c1 x_skip) (x_rt (x_ift c2 (x_seq (x_asg (ρ1 := [.sh .st, .sh (.int many), .sh (.int 2), .no, .sh (.int t), .no]) c3 (by simp [mkSlot, mdOf])) (x_rt (x_ret hlc (by simp [retOk, mdOf]))))))]
    rw [bind_ok, endO_rt, List.map_map]
    rfl
  · obtain ⟨j, _, rfl⟩ := List.mem_map.mp hn
    exact Nat.mod_lt _ hm
theorem nexts_3 (hk : 3 ≤ k) {b many : Nat} (hm : 0 < many) (hm2 : many ≤ 100) (hG : GB (b + (2 * many + 1)) s) {kind : Int} (h1 : ¬ kind = 1) (h2 : ¬ kind = 2) : ∃ (ns : List Nat) (s' : DS), callM Γ tb k 52 [.st, .int many, .int kind] s = .ok (.lst (ns.map nI)) s' ∧ ns.length = many ∧ (∀ n ∈ ns, n < many) ∧ GB b s' := by
  have hrl : many ≤ lim := le_lim (by omega)
  obtain ⟨i, s1, e, h3, h4, hG1⟩ := pick_ok (b := b + 2 * many) (m := many) (hG.mono (by omega)) (by omega) (by omega)
  obtain ⟨o, rfl⟩ : ∃ o : Nat, i = o := ⟨i.toNat, by omega⟩
  have hlcs := lcM_sat (p := .n 5) (ρ := [.sh .st, .sh (.int many), .sh (.int kind), .sh (.int o), .no, .no]) (cnd := fun _ s => .ok (.bl true) s) (elt := fun ρ s => ev Γ (callM Γ tb (k - 1)) e52_1 ρ s) (enc := nI) (xs := List.range many) (s := s1) nI
    (fun n s => GB (b + 2 * n) s) (fun _ y => y < many) (by simpa using hG1) fun j hj n s2 hG2 => ⟨[.sh .st, .sh (.int many), .sh (.int kind), .sh (.int o), .no, .sh (nI j)], rfl, rfl, by
      obtain ⟨p, s3, e3, h5, h6, hG3⟩ := pick_ok (b := b + 2 * n + 1) (m := 3) (hG2.mono (by omega)) (by omega) (by omega)
      by_cases hk3 : kind = 3
      · subst hk3
        by_cases hp : 0 < p
        · refine sat_of (a := nI o) (s := s3) ?_ ⟨hG3.mono (by omega), o, rfl, by omega⟩
          simp [e52_1, ev, evs, cmpD, eqD_int, pick_m (k := k - 1) (show 1 ≤ k - 1 by omega), e3, flatO, flatD, hp]
        · obtain ⟨q, s4, e4, h7, h8, hG4⟩ := pick_ok (b := b + 2 * n) (m := many) hG3 (by omega) (by omega)
          obtain ⟨q, rfl⟩ : ∃ o : Nat, q = o := ⟨q.toNat, by omega⟩
          refine sat_of (a := nI q) (s := s4) ?_ ⟨hG4, q, rfl, by omega⟩
          simp [e52_1, ev, evs, cmpD, eqD_int, pick_m (k := k - 1) (show 1 ≤ k - 1 by omega), e3, e4, flatO, flatD, hp]
      · obtain ⟨q, s4, e4, h7, h8, hG4⟩ := pick_ok (b := b + 2 * n) (m := many) (s := s2) (hG2.mono (by omega)) (by omega) (by omega)
        obtain ⟨q, rfl⟩ : ∃ o : Nat, q = o := ⟨q.toNat, by omega⟩
        refine sat_of (a := nI q) (s := s4) ?_ ⟨hG4, q, rfl, by omega⟩
        simp [e52_1, ev, evs, cmpD, eqD_int, pick_m (k := k - 1) (show 1 ≤ k - 1 by omega), e4, flatO, flatD, hk3]⟩
  obtain ⟨ds, s2, e2, hG2, ys, rfl, hyl, hy⟩ := sat_ex hlcs
  rw [List.length_range] at hyl
  refine ⟨ys, s2, ?_, hyl, fun n hn => ?_, by simpa using hG2⟩
  · have hlc : ev Γ (callM Γ tb (k - 1)) (.lc [5] e52_1 (.n 5) (.r1 (.rv 1)) .nop) [.sh .st, .sh (.int many), .sh (.int kind), .sh (.int o), .no, .no] s1 = .ok (.lst (ys.map nI)) s2 := by
      refine ev_lc (s1 := s1) (itM_r1 (n := many) (by simp [ev]) (by omega)) (by rw [rangeD_len]; exact hrl) ?_
      rw [rangeD_eq]
      exact e2
    have c1 : ev Γ (callM Γ tb (k - 1)) (.cmp .eq (.rv 2) (.c (.int 1))) [.sh .st, .sh (.int many), .sh (.int kind), .no, .no, .no] s = .ok (.bl false) s := by simp [ev, cmpD, eqD_int, h1]
    have c2 : ev Γ (callM Γ tb (k - 1)) (.cmp .eq (.rv 2) (.c (.int 2))) [.sh .st, .sh (.int many), .sh (.int kind), .no, .no, .no] s = .ok (.bl false) s := by simp [ev, cmpD, eqD_int, h2]
    have c3 : ev Γ (callM Γ tb (k - 1)) (.call 42 (.cons (.rv 0) (.cons (.rv 1) .nil))) [.sh .st, .sh (.int many), .sh (.int kind), .no, .no, .no] s = .ok (.int o) s1 := by simp [ev, evs, pick_m (k := k - 1) (by omega), e, flatO, flatD]
    rw [run52 (by omega), f52, x_seq (x_iff c1 x_skip) (x_seq (x_iff c2 x_skip) (x_seq (x_asg (ρ1 := [.sh .st, .sh (.int many), .sh (.int kind), .sh (.int o), .no, .no]) c3 (by simp [mkSlot, mdOf])) (x_rt (x_ret hlc (by simp [retOk, mdOf])))))]
    rfl
  · obtain ⟨j, hj⟩ := List.mem_iff_getElem?.mp hn
    have hj2 := (List.getElem?_eq_some_iff.mp hj).1
    exact hy j j n (by rw [List.getElem?_range (by omega)]) hj
theorem nexts_m (hk : 3 ≤ k) {b many : Nat} (hm : 0 < many) (hm2 : many ≤ 100) (hG : GB (b + (2 * many + 1)) s) (kind : Int) : ∃ (ns : List Nat) (s' : DS), callM Γ tb k 52 [.st, .int many, .int kind] s = .ok (.lst (ns.map nI)) s' ∧ ns.length = many ∧ (∀ n ∈ ns, n < many) ∧ GB b s' := by
  by_cases h1 : kind = 1
  · subst h1
    exact nexts_1 hk hm hm2 hG
  · by_cases h2 : kind = 2
    · subst h2
      exact nexts_2 hk hm hm2 hG
    · exact nexts_3 hk hm hm2 hG h1 h2
end
end K94
end
section
set_option Elab.async false
set_option linter.all false
set_option maxRecDepth 100000
set_option maxHeartbeats 4100000
namespace K94
open L2 IR
open PySem (Str PyData)
section
variable {k : Nat} {s : DS}
/-- rows while they are drawn -/
structure RwI (st : List Str) (dn : List Str) (b : Str) (p : Nat) (rows : List Row) : Prop where
  ok : ∀ r ∈ rows, r.1 ∈ st ∧ (r.2.1 ∈ dn ∨ r.2.1 = b) ∧ okW r.2.2.1 ∧ r.2.2.2 ∈ st
  nd : (rows.map rkey).Nodup
  lt : ∀ r ∈ rows, r.2.1 = b → ∃ i, i < p ∧ st[i]? = some r.1
theorem RwI.add {st dn : List Str} {b : Str} {p : Nat} {rows : List Row} (I : RwI st dn b p rows) (hst : st.Nodup) {x w y : Str} (hx : st[p]? = some x) (hw : okW w) (hy : y ∈ st) : RwI st dn b (p + 1) (rows ++ [(x, b, w, y)]) where
  ok := fun r hr => by
    rcases List.mem_append.mp hr with h | h
    · exact I.ok r h
    · rw [List.mem_singleton.mp h]
      exact ⟨List.mem_of_getElem? hx, .inr rfl, hw, hy⟩
  nd := by
    (rw [List.map_append, List.nodup_append])
    refine ⟨I.nd, by simp, fun a ha c hc e => ?_⟩
    obtain ⟨r, hr, rfl⟩ := List.mem_map.mp ha
    have hc : c = (x, b) := by simpa [rkey] using hc
    rw [hc] at e
    unfold rkey at e
    simp at e
    obtain ⟨i, hi, h2⟩ := I.lt r hr e.2
    rw [e.1] at h2
    obtain ⟨h3, h4⟩ := List.getElem?_eq_some_iff.mp h2
    obtain ⟨h5, h6⟩ := List.getElem?_eq_some_iff.mp hx
    exact List.pairwise_iff_getElem.mp hst i p h3 h5 hi (h4.trans h6.symm)
  lt := fun r hr hb => by
    rcases List.mem_append.mp hr with h | h
    · obtain ⟨i, hi, h2⟩ := I.lt r h hb
      exact ⟨i, by omega, h2⟩
    · rw [List.mem_singleton.mp h]
      exact ⟨p, by omega, hx⟩
theorem RwI.next {st dn : List Str} {b : Str} {p : Nat} {rows : List Row} (I : RwI st dn b p rows) : RwI st dn b (p + 1) rows where
  ok := I.ok
  nd := I.nd
  lt := fun r hr hb => by
    obtain ⟨i, hi, h2⟩ := I.lt r hr hb
    exact ⟨i, by omega, h2⟩
theorem db_word (hk : 4 ≤ k) {b : Nat} (hG : GB (b + 2) s) {ρ : Env} {wds : List Str} (hw0 : wds ≠ []) (hwl : wds.length ≤ 100) (hw : ∀ w ∈ wds, okW w) {odd p : Int} {many : Nat} (hm : 0 < many) (hm2 : many ≤ 100)
    (h0 : ρ[0]? = some (.sh .st)) (h6 : ρ[6]? = some (.sh (.int many))) (h10 : ρ[10]? = some (.sh (.lst (wds.map .str)))) (h11 : ρ[11]? = some (.sh (.int p))) (h13 : ρ[13]? = some (.sh (.int odd))) :
    ∃ w s', ev Γ (callM Γ tb (k - 1)) (.ife (.and (.cmp .lt (.rv 13) (.c (.int 2))) (.cmp .ne (.rv 11) (.call 42 (.cons (.rv 0) (.cons (.rv 6) .nil))))) (.sub (.rv 10) (.c (.int 0))) (.call 44 (.cons (.v 0) (.cons (.v 10) .nil)))) ρ s = .ok (.str w) s' ∧ okW w ∧ GB b s' := by
  have one : ∀ s, GB (b + 1) s → ∃ w s', ev Γ (callM Γ tb (k - 1)) (.call 44 (.cons (.v 0) (.cons (.v 10) .nil))) ρ s = .ok (.str w) s' ∧ okW w ∧ GB b s' := fun s hG => by
    obtain ⟨d, s', e, hd, hG'⟩ := one_m (k := k - 1) (by omega) hG (ds := wds.map .str) (by simpa using hw0) (by simp; omega)
    obtain ⟨w, hw1, rfl⟩ := List.mem_map.mp hd
    exact ⟨w, s', by simp [ev, evs, h0, h10, e], hw w hw1, hG'⟩
  by_cases ho : odd < 2
  · obtain ⟨i, s1, e, h3, h4, hG1⟩ := pick_ok (b := b + 1) (m := many) hG (by omega) (by omega)
    by_cases hp : p = i
    · obtain ⟨w, s', e2, hw2, hG2⟩ := one s1 hG1
      refine ⟨w, s', ?_, hw2, hG2⟩
      rw [ev_ife_f (s1 := s1) (by simp [ev, evs, cmpD, h0, h6, h11, h13, ho, hp, pick_m (k := k - 1) (show 1 ≤ k - 1 by omega), e, flatO, flatD, eqD_int])]
      exact e2
    · cases wds with
      | nil => exact absurd rfl hw0
      | cons w wds =>
        refine ⟨w, s1, ?_, hw w (List.mem_cons_self ..), hG1.mono (by omega)⟩
        simp [ev, evs, cmpD, h0, h6, h10, h11, h13, ho, hp, pick_m (k := k - 1) (show 1 ≤ k - 1 by omega), e, flatO, flatD, eqD_int, subD, atI_0]
  · obtain ⟨w, s', e2, hw2, hG2⟩ := one s (hG.mono (by omega))
    refine ⟨w, s', ?_, hw2, hG2⟩
    rw [ev_ife_f (s1 := s) (by simp [ev, evs, cmpD, h13, ho])]
    exact e2
theorem db_a (hk : 4 ≤ k) {b many : Nat} (hm : 0 < many) (hm2 : many ≤ 8) {gone odd : Int} (hg0 : 0 ≤ gone) (hg1 : gone < 1000) {st dn wds : List Str} {bt : Str} {ns : List Nat} {rows : List Row} (hst : st.Nodup) (hsl : st.length = many) (hw0 : wds ≠ []) (hwl : wds.length ≤ 100) (hw : ∀ w ∈ wds, okW w)
    (hns : ns.length = many) (hnm : ∀ n ∈ ns, n < many) (I : RwI st dn bt 0 rows) (hrl : rows.length ≤ 1000) {x1 x2 x4 x7 x10 x11 x14 : Slot} (hx10 : x10 = .sh (.lst (wds.map .str)) ∨ x10 = .own (.lst (wds.map .str))) (hG : GB (b + 3 * many) s) :
    Sat (forM (fun ρ s => IR.exec Γ (callM Γ tb (k - 1)) true fuelW b53_0 ρ s) (.n 11) ((List.range many).map nI) [.sh .st, x1, x2, .sh (.int gone), x4, .sh (.str bt), .sh (.int many), x7, .own (.lst (st.map .str)), .own (.lst (rows.map rowD)), x10, x11, .own (.lst (ns.map nI)), .sh (.int odd), x14] s)
      (fun fl s' => GB b s' ∧ ∃ rows' x10 x11 x14, fl = .nx [.sh .st, x1, x2, .sh (.int gone), x4, .sh (.str bt), .sh (.int many), x7, .own (.lst (st.map .str)), .own (.lst (rows'.map rowD)), x10, x11, .own (.lst (ns.map nI)), .sh (.int odd), x14] ∧ RwI st dn bt many rows' ∧ rows'.length ≤ rows.length + many ∧ (x10 = .sh (.lst (wds.map .str)) ∨ x10 = .own (.lst (wds.map .str)))) := by
  refine forM_sat (fun pre ρ s' => GB (b + 3 * (many - pre.length)) s' ∧ ∃ rows' x10 x11 x14, ρ = [.sh .st, x1, x2, .sh (.int gone), x4, .sh (.str bt), .sh (.int many), x7, .own (.lst (st.map .str)), .own (.lst (rows'.map rowD)), x10, x11, .own (.lst (ns.map nI)), .sh (.int odd), x14] ∧ RwI st dn bt pre.length rows' ∧ rows'.length ≤ rows.length + pre.length ∧ (x10 = .sh (.lst (wds.map .str)) ∨ x10 = .own (.lst (wds.map .str)))) ⟨by simpa using hG, rows, x10, x11, x14, rfl, I, Nat.le_refl _, hx10⟩ ?_ ?_
  · rintro pre p post ρ s' e ⟨hG1, rows', y10, y11, y14, q2, I, hrl2, hy10⟩
    subst q2
    refine ⟨_, rfl, ?_⟩
    simp only [List.set_cons_succ, List.set_cons_zero]
    have hp : p = pre.length := by
      have h3 := congrArg (fun l => l[pre.length]?) e
      simp only [List.getElem?_append_right (Nat.le_refl _), Nat.sub_self, List.getElem?_cons_zero] at h3
      obtain ⟨h4, h5⟩ := List.getElem?_eq_some_iff.mp h3
      simpa using h5.symm
    have hpm : p < many := List.mem_range.mp (by rw [e]; simp)
    rw [← hp] at I hG1 hrl2
    have hpl : (pre ++ [p]).length = p + 1 := by rw [List.length_append, hp]; rfl
    rw [hpl]
    obtain ⟨x, hx⟩ : ∃ x, st[p]? = some x := ⟨_, List.getElem?_eq_getElem (by omega)⟩
    obtain ⟨n, hn⟩ : ∃ n, ns[p]? = some n := ⟨_, List.getElem?_eq_getElem (by omega)⟩
    have hnm' := hnm n (List.mem_of_getElem? hn)
    obtain ⟨y, hy⟩ : ∃ y, st[n]? = some y := ⟨_, List.getElem?_eq_getElem (by omega)⟩
    have a1 : atI (st.map D.str) ((p : Nat) : Int) = some (.str x) := by rw [atI_map, atI_nat hx]; rfl
    have a2 : atI (ns.map nI) ((p : Nat) : Int) = some (.int ((n : Nat) : Int)) := by rw [atI_map, atI_nat hn]; rfl
    have a3 : atI (st.map D.str) ((n : Nat) : Int) = some (.str y) := by rw [atI_map, atI_nat hy]; rfl
    have hfrz : frzE [.sh .st, x1, x2, .sh (.int gone), x4, .sh (.str bt), .sh (.int many), x7, .own (.lst (st.map .str)), .own (.lst (rows'.map rowD)), y10, .sh (.int (p : Int)), .own (.lst (ns.map nI)), .sh (.int odd), y14] [10] = [.sh .st, x1, x2, .sh (.int gone), x4, .sh (.str bt), .sh (.int many), x7, .own (.lst (st.map .str)), .own (.lst (rows'.map rowD)), .sh (.lst (wds.map .str)), .sh (.int (p : Int)), .own (.lst (ns.map nI)), .sh (.int odd), y14] := by
      rcases hy10 with rfl | rfl <;> simp [frzE]
    obtain ⟨w, s1, ew, hw1, hG2⟩ := db_word (s := s') (k := k) hk (b := b + 3 * (many - (p + 1)) + 1) (hG1.mono (by omega)) (ρ := [.sh .st, x1, x2, .sh (.int gone), x4, .sh (.str bt), .sh (.int many), x7, .own (.lst (st.map .str)), .own (.lst (rows'.map rowD)), .sh (.lst (wds.map .str)), .sh (.int (p : Int)), .own (.lst (ns.map nI)), .sh (.int odd), y14]) hw0 hwl hw (odd := odd) (p := p) hm (by omega) rfl rfl rfl rfl rfl
    have hcond : ∃ (c : Bool) (s2 : DS), ev Γ (callM Γ tb (k - 1)) (.or (.cmp .eq (.rv 3) (.c (.int 0))) (.cmp .gt (.call 42 (.cons (.rv 0) (.cons (.rv 3) .nil))) (.c (.int 0)))) [.sh .st, x1, x2, .sh (.int gone), x4, .sh (.str bt), .sh (.int many), x7, .own (.lst (st.map .str)), .own (.lst (rows'.map rowD)), .sh (.lst (wds.map .str)), .sh (.int (p : Int)), .own (.lst (ns.map nI)), .sh (.int odd), .sh (.str w)] s1 = .ok (.bl c) s2 ∧ GB (b + 3 * (many - (p + 1))) s2 := by
      by_cases h0 : gone = 0
      · exact ⟨true, s1, by simp [ev, cmpD, eqD_int, h0], hG2.mono (by omega)⟩
      · obtain ⟨i, s2, e2, _, _, hG3⟩ := pick_ok (b := b + 3 * (many - (p + 1))) (m := gone) hG2 (by omega) (by omega)
        exact ⟨decide (0 < i), s2, by simp [ev, evs, cmpD, eqD_int, h0, pick_m (k := k - 1) (show 1 ≤ k - 1 by omega), e2, flatO, flatD], hG3⟩
    obtain ⟨c, s2, ec, hG3⟩ := hcond
    cases c with
    | true =>
      have happ : ev Γ (callM Γ tb (k - 1)) (.tup (.cons (.sub (.rv 8) (.rv 11)) (.cons (.v 5) (.cons (.v 14) (.cons (.sub (.rv 8) (.sub (.rv 12) (.rv 11))) .nil))))) [.sh .st, x1, x2, .sh (.int gone), x4, .sh (.str bt), .sh (.int many), x7, .own (.lst (st.map .str)), .own (.lst (rows'.map rowD)), .sh (.lst (wds.map .str)), .sh (.int (p : Int)), .own (.lst (ns.map nI)), .sh (.int odd), .sh (.str w)] s2 = .ok (rowD (x, bt, w, y)) s2 := by
        simp only [ev, evs, List.getElem?_cons_succ, List.getElem?_cons_zero, bind_ok, subD, a1, a2, a3, of_some, List.length_cons, List.length_nil, Nat.zero_add, Nat.reduceAdd, lim4, if_true]
        rfl
      have hx := x_seq (Γ := Γ) (cf := callM Γ tb (k - 1)) (fr := true) (W := fuelW) (x_frz hfrz) (x_seq (x_asg (i := 14) (ρ1 := [.sh .st, x1, x2, .sh (.int gone), x4, .sh (.str bt), .sh (.int many), x7, .own (.lst (st.map .str)), .own (.lst (rows'.map rowD)), .sh (.lst (wds.map .str)), .sh (.int (p : Int)), .own (.lst (ns.map nI)), .sh (.int odd), .sh (.str w)]) ew (by simp [mkSlot, mdOf])) (x_seq (x_ift (b := .skip) ec (x_seq (x_app (i := 9) (ρ1 := [.sh .st, x1, x2, .sh (.int gone), x4, .sh (.str bt), .sh (.int many), x7, .own (.lst (st.map .str)), .own (.lst ((rows' ++ [(x, bt, w, y)]).map rowD)), .sh (.lst (wds.map .str)), .sh (.int (p : Int)), .own (.lst (ns.map nI)), .sh (.int odd), .sh (.str w)]) (ds := rows'.map rowD) rfl happ (lt_lim (by rw [List.length_map]; omega)) (by simp)) x_skip)) x_skip))
      refine sat_of hx ?_
      refine ⟨hG3, rows' ++ [(x, bt, w, y)], _, _, _, rfl, I.add hst ‹_› hw1 (List.mem_of_getElem? hy), ?_, .inl rfl⟩
      rw [List.length_append]
      simp
      omega
    | false =>
      have hx := x_seq (Γ := Γ) (cf := callM Γ tb (k - 1)) (fr := true) (W := fuelW) (x_frz hfrz) (x_seq (x_asg (i := 14) (ρ1 := [.sh .st, x1, x2, .sh (.int gone), x4, .sh (.str bt), .sh (.int many), x7, .own (.lst (st.map .str)), .own (.lst (rows'.map rowD)), .sh (.lst (wds.map .str)), .sh (.int (p : Int)), .own (.lst (ns.map nI)), .sh (.int odd), .sh (.str w)]) ew (by simp [mkSlot, mdOf])) (x_seq (x_iff (a := .seq (.app 9 (.tup (.cons (.sub (.rv 8) (.rv 11)) (.cons (.v 5) (.cons (.v 14) (.cons (.sub (.rv 8) (.sub (.rv 12) (.rv 11))) .nil)))))) .skip) ec x_skip) x_skip))
      refine sat_of hx ?_
      exact ⟨hG3, rows', _, _, _, rfl, I.next, by omega, .inl rfl⟩
  · rintro ρ s' ⟨hG1, rows', y10, y11, y14, q2, I, hrl2, hy10⟩
    subst q2
    rw [List.length_range] at hG1 I hrl2
    exact ⟨by simpa using hG1, rows', y10, y11, y14, rfl, I, hrl2, hy10⟩
end
end K94
end
section
set_option Elab.async false
set_option linter.all false
set_option maxRecDepth 100000
set_option maxHeartbeats 4100000
namespace K94
open L2 IR
open PySem (Str PyData)
section
variable {k : Nat} {s : DS}
theorem db_b (hk : 4 ≤ k) {b many : Nat} (hm : 0 < many) (hm2 : many ≤ 8) {gone : Int} (hg0 : 0 ≤ gone) (hg1 : gone < 1000) {st wds bts : List Str} (hst : st.Nodup) (hsl : st.length = many) (hw0 : wds ≠ []) (hwl : wds.length ≤ 100) (hw : ∀ w ∈ wds, okW w)
    (hbt : bts.Nodup) (hbl : bts.length ≤ 8) {x1 x2 x4 x5 x7 x10 x11 x12 x13 x14 : Slot} (hx10 : x10 = .sh (.lst (wds.map .str)) ∨ x10 = .own (.lst (wds.map .str))) (hG : GB (b + 50 * bts.length) s) :
    Sat (forM (fun ρ s => IR.exec Γ (callM Γ tb (k - 1)) true fuelW b53_1 ρ s) (.n 5) (bts.map .str) [.sh .st, x1, x2, .sh (.int gone), x4, x5, .sh (.int many), x7, .own (.lst (st.map .str)), .own (.lst []), x10, x11, x12, x13, x14] s)
      (fun fl s' => GB b s' ∧ ∃ rows x5 x10 x11 x12 x13 x14, fl = .nx [.sh .st, x1, x2, .sh (.int gone), x4, x5, .sh (.int many), x7, .own (.lst (st.map .str)), .own (.lst (List.map rowD rows)), x10, x11, x12, x13, x14] ∧ (∀ r ∈ rows, r.1 ∈ st ∧ r.2.1 ∈ bts ∧ okW r.2.2.1 ∧ r.2.2.2 ∈ st) ∧ (rows.map rkey).Nodup) := by
  refine forM_sat (fun pre ρ s' => GB (b + 50 * (bts.length - pre.length)) s' ∧ ∃ rows x5 x10 x11 x12 x13 x14, ρ = [.sh .st, x1, x2, .sh (.int gone), x4, x5, .sh (.int many), x7, .own (.lst (st.map .str)), .own (.lst (List.map rowD rows)), x10, x11, x12, x13, x14] ∧ (∀ r ∈ rows, r.1 ∈ st ∧ r.2.1 ∈ pre ∧ okW r.2.2.1 ∧ r.2.2.2 ∈ st) ∧ (rows.map rkey).Nodup ∧ rows.length ≤ 8 * pre.length ∧ (x10 = .sh (.lst (wds.map .str)) ∨ x10 = .own (.lst (wds.map .str))))
    ⟨by simpa using hG, [], x5, x10, x11, x12, x13, x14, rfl, fun r h => (nomatch h), by simp, Nat.le_refl _, hx10⟩ ?_ ?_
  · rintro pre bt post ρ s' e ⟨hG1, rows, y5, y10, y11, y12, y13, y14, q2, I, hnd, hrl, hy10⟩
    subst q2
    refine ⟨_, rfl, ?_⟩
    simp only [List.set_cons_succ, List.set_cons_zero]
    have hpl : pre.length < bts.length := by
      have := congrArg List.length e
      simp at this
      omega
    have hnb : ¬ bt ∈ pre := fun h => by
      rw [e, List.nodup_append] at hbt
      exact hbt.2.2 bt h bt (List.mem_cons_self ..) rfl
    obtain ⟨kd, s1, e1, _, _, hG2⟩ := pick_ok (b := b + 50 * (bts.length - (pre.length + 1)) + 49) (m := 4) (hG1.mono (by omega)) (by omega) (by omega)
    obtain ⟨ns, s2, e2, hnl, hnm, hG3⟩ := nexts_m (k := k - 1) (s := s1) (b := b + 50 * (bts.length - (pre.length + 1)) + 25) (by omega) hm (by omega) (hG2.mono (by omega)) kd
    obtain ⟨odd, s3, e3, _, _, hG4⟩ := pick_ok (b := b + 50 * (bts.length - (pre.length + 1)) + 24) (m := 4) hG3 (by omega) (by omega)
    have hI : RwI st pre bt 0 rows := ⟨fun r hr => ⟨(I r hr).1, .inl (I r hr).2.1, (I r hr).2.2⟩, hnd, fun r hr he => absurd (he ▸ (I r hr).2.1) hnb⟩
    obtain ⟨fl, s4, e4, hG5, rows', z10, z11, z14, q2, J, hrl2, hz10⟩ := sat_ex (db_a (s := s3) (k := k) hk (b := b + 50 * (bts.length - (pre.length + 1))) hm hm2 hg0 hg1 (odd := odd) hst hsl hw0 hwl hw hnl hnm hI (by omega) (x1 := x1) (x2 := x2) (x4 := x4) (x7 := x7) (x10 := y10) (x11 := y11) (x14 := y14) hy10 (hG4.mono (by omega)))
    subst q2
    have hp : evp Γ (callM Γ tb (k - 1)) (.cons (.call 52 (.cons (.v 0) (.cons (.v 6) (.cons (.call 42 (.cons (.rv 0) (.cons (.c (.int 4)) .nil))) .nil)))) (.cons (.call 42 (.cons (.rv 0) (.cons (.c (.int 4)) .nil))) .nil)) [.sh .st, x1, x2, .sh (.int gone), x4, .sh (.str bt), .sh (.int many), x7, .own (.lst (st.map .str)), .own (.lst (List.map rowD rows)), y10, y11, y12, y13, y14] s'
        = .ok [.own (.lst (ns.map nI)), .sh (.int odd)] s3 := by
      simp only [evp, ev, evs, List.getElem?_cons_succ, List.getElem?_cons_zero, bind_ok, fl42, if_true, pick_m (k := k - 1) (show 1 ≤ k - 1 by omega), e1, flatO, flatD, fl52, Bool.false_eq_true, if_false, e2, e3, mkSlot, mdOf, fr52, fr42, isC, and_self, and_false, reduceCtorEq]
    have hit : itM Γ (callM Γ tb (k - 1)) (.r1 (.rv 6)) [.sh .st, x1, x2, .sh (.int gone), x4, .sh (.str bt), .sh (.int many), x7, .own (.lst (st.map .str)), .own (.lst (List.map rowD rows)), y10, y11, .own (.lst (ns.map nI)), .sh (.int odd), y14] s3 = .ok ((List.range many).map nI) s3 := by
      rw [← rangeD_eq]
      exact itM_r1 (by simp [ev]) (by omega)
    have hx := x_seq (Γ := Γ) (cf := callM Γ tb (k - 1)) (fr := true) (W := fuelW) (x_frz (is := [6]) (ρ := [.sh .st, x1, x2, .sh (.int gone), x4, .sh (.str bt), .sh (.int many), x7, .own (.lst (st.map .str)), .own (.lst (List.map rowD rows)), y10, y11, y12, y13, y14]) (by simp [frzE])) (x_seq (x_par (is := [12, 13]) (ρ1 := [.sh .st, x1, x2, .sh (.int gone), x4, .sh (.str bt), .sh (.int many), x7, .own (.lst (st.map .str)), .own (.lst (List.map rowD rows)), y10, y11, .own (.lst (ns.map nI)), .sh (.int odd), y14]) hp (by simp [setL])) (x_seq (x_for hit e4) x_skip))
    refine sat_of hx ?_
    refine ⟨by rw [List.length_append]; simpa using hG5, rows', _, z10, z11, _, _, z14, rfl, fun r hr => ?_, J.nd, by rw [List.length_append]; simp; omega, hz10⟩
    obtain ⟨h1, h2, h3⟩ := J.ok r hr
    refine ⟨h1, ?_, h3⟩
    rcases h2 with h2 | h2
    · exact List.mem_append_left _ h2
    · exact List.mem_append_right _ (by simp [h2])
  · rintro ρ s' ⟨hG1, rows, y5, y10, y11, y12, y13, y14, q2, I, hnd, hrl, hy10⟩
    subst q2
    exact ⟨by simpa using hG1, rows, y5, y10, y11, y12, y13, y14, rfl, I, hnd⟩
theorem draw_box_m (hk : 5 ≤ k) {b least most : Nat} (h1 : 1 ≤ least) (h2 : least ≤ most) (h3 : most ≤ 8) {gone : Int} (hg0 : 0 ≤ gone) (hg1 : gone < 1000) (hG : GB (b + 1000) s) :
    ∃ (R : Raw) (s' : DS), callM Γ tb k 53 [.st, .int least, .int most, .int gone] s = .ok (rawD R) s' ∧ RawOk R ∧ R.st.length ≤ most ∧ least ≤ R.st.length ∧ R.bt.length ≤ 4 ∧ GB b s' := by
  obtain ⟨names, s1, e1, hnl, hnn, hnw, hG1⟩ := words_m (k := k - 1) (s := s) (b := b + 800) (n := most + 4) (by omega) (by omega) (hG.mono (by omega))
  obtain ⟨mi, s2, e2, hm1, hm2, hG2⟩ := between_m (k := k - 1) (s := s1) (b := b + 799) (by omega) hG1 (lo := least) (hi := most) (by omega) (by omega)
  obtain ⟨many, rfl⟩ : ∃ n : Nat, mi = n := ⟨mi.toNat, by omega⟩
  obtain ⟨nb, s3, e3, hb1, hb2, hG3⟩ := pick_ok (b := b + 798) (m := 4) hG2 (by omega) (by omega)
  obtain ⟨nb, rfl⟩ : ∃ n : Nat, nb = n := ⟨nb.toNat, by omega⟩
  obtain ⟨nw, s4, e4, hw1, hw2, hG4⟩ := pick_ok (b := b + 797) (m := 3) hG3 (by omega) (by omega)
  obtain ⟨nw, rfl⟩ : ∃ n : Nat, nw = n := ⟨nw.toNat, by omega⟩
  obtain ⟨wds, s5, e5, hwl, hwn, hww, hG5⟩ := words_m (k := k - 1) (s := s4) (b := b + 700) (n := nw + 1) (by omega) (by omega) (hG4.mono (by omega))
  have hst : (names.take many).Nodup := List.Nodup.sublist (List.take_sublist _ _) hnn
  have hbt : ((names.drop most).take (nb + 1)).Nodup := List.Nodup.sublist ((List.take_sublist _ _).trans (List.drop_sublist _ _)) hnn
  have hsl : (names.take many).length = many := by rw [List.length_take]; omega
  have hbl : ((names.drop most).take (nb + 1)).length = nb + 1 := by rw [List.length_take, List.length_drop]; omega
  have hw0 : wds ≠ [] := fun h => by rw [h] at hwl; simp at hwl
  obtain ⟨fl, s6, e6, hG6, rows, z5, z10, z11, z12, z13, z14, q2, hrows, hkey⟩ := sat_ex (db_b (s := s5) (k := k) (by omega) (b := b + 300) (many := many) (by omega) (by omega) hg0 hg1 hst hsl hw0 (by omega) hww hbt (by omega) (x1 := .sh (.int least)) (x2 := .sh (.int most)) (x4 := .own (.lst (names.map .str))) (x5 := .no) (x7 := .sh (.lst (((names.drop most).take (nb + 1)).map .str))) (x10 := .own (.lst (wds.map .str))) (x11 := .no) (x12 := .no) (x13 := .no) (x14 := .no) (.inr rfl) (hG5.mono (by omega)))
  subst q2
  have ok : RawOk ⟨names.take many, (names.drop most).take (nb + 1), rows⟩ := {
    stn := hst
    stw := fun x hx => hnw x (List.mem_of_mem_take hx)
    st0 := fun h => by
      have h : names.take many = [] := h
      rw [h] at hsl
      simp at hsl
      omega
    stl := by show (names.take many).length ≤ 8; omega
    btn := hbt
    btw := fun x hx => hnw x (List.mem_of_mem_drop (List.mem_of_mem_take hx))
    bt0 := fun h => by
      have h : (names.drop most).take (nb + 1) = [] := h
      rw [h] at hbl
      simp at hbl
    btl := by show ((names.drop most).take (nb + 1)).length ≤ 8; omega
    rws := hrows
    key := hkey }
  refine ⟨_, s6, ?_, srt_ok ok, by show (names.take many).length ≤ most; omega, by show least ≤ (names.take many).length; omega, by show ((names.drop most).take (nb + 1)).length ≤ 4; omega, hG6.mono (by omega)⟩
  have hsr := sorted_m (k := k - 1) (s := s6) ok (by omega)
  have c1 : cutL (names.map D.str) (some (most : Int)) none = (names.drop most).map D.str := by rw [cutL_map, cut_from]
  have c2 : cutL ((names.drop most).map D.str) none (some ((1 : Int) + (nb : Int))) = ((names.drop most).take (nb + 1)).map D.str := by rw [cutL_map, show (1 : Int) + (nb : Int) = ((nb + 1 : Nat) : Int) by omega, cut_to]
  have c3 : cutL (names.map D.str) none (some (many : Int)) = (names.take many).map D.str := by rw [cutL_map, cut_to]
  have n1 : (most : Int) + 4 = ((most + 4 : Nat) : Int) := by omega
  have n2 : (1 : Int) + (nw : Int) = ((nw + 1 : Nat) : Int) := by omega
  have a1 : ev Γ (callM Γ tb (k - 1)) (.call 50 (.cons (.v 0) (.cons (.bin .add (.rv 2) (.c (.int 4))) .nil))) [.sh .st, .sh (.int least), .sh (.int most), .sh (.int gone), .no, .no, .no, .no, .no, .no, .no, .no, .no, .no, .no] s = .ok (.lst (names.map .str)) s1 := by
    simp only [ev, evs, List.getElem?_cons_succ, List.getElem?_cons_zero, bind_ok, binD, of_some, n1, fl50, Bool.false_eq_true, if_false, e1]
  have a2 : evp Γ (callM Γ tb (k - 1)) (.cons (.call 43 (.cons (.rv 0) (.cons (.rv 1) (.cons (.rv 2) .nil)))) (.cons (.sl (.sl (.rv 4) (.rv 2) .nop) .nop (.bin .add (.c (.int 1)) (.call 42 (.cons (.rv 0) (.cons (.c (.int 4)) .nil))))) .nil)) [.sh .st, .sh (.int least), .sh (.int most), .sh (.int gone), .own (.lst (names.map .str)), .no, .no, .no, .no, .no, .no, .no, .no, .no, .no] s1
      = .ok [.sh (.int many), .own (.lst (((names.drop most).take (nb + 1)).map .str))] s3 := by
    simp only [evp, ev, evs, List.getElem?_cons_succ, List.getElem?_cons_zero, bind_ok, fl43, if_true, e2, flatO, flatD, isNop_rv, isNop_nop, isNop_bin, Bool.false_eq_true, if_false, intO, slD, of_some, c1, fl42, pick_m (k := k - 1) (show 1 ≤ k - 1 by omega), e3, binD, c2, mkSlot, mdOf, fr43, isC, and_self, and_false, reduceCtorEq]
  have a3 : evp Γ (callM Γ tb (k - 1)) (.cons (.sl (.rv 4) .nop (.rv 6)) (.cons (.lst .nil) (.cons (.call 50 (.cons (.v 0) (.cons (.bin .add (.c (.int 1)) (.call 42 (.cons (.rv 0) (.cons (.c (.int 3)) .nil)))) .nil))) .nil))) [.sh .st, .sh (.int least), .sh (.int most), .sh (.int gone), .own (.lst (names.map .str)), .no, .sh (.int many), .own (.lst (((names.drop most).take (nb + 1)).map .str)), .no, .no, .no, .no, .no, .no, .no] s3
      = .ok [.own (.lst ((names.take many).map .str)), .own (.lst []), .own (.lst (wds.map .str))] s5 := by
    simp only [evp, ev, evs, List.getElem?_cons_succ, List.getElem?_cons_zero, bind_ok, isNop_rv, isNop_nop, Bool.false_eq_true, if_false, if_true, intO, slD, of_some, c3, List.length_nil, Nat.zero_le, fl50, fl42, pick_m (k := k - 1) (show 1 ≤ k - 1 by omega), e4, flatO, flatD, binD, n2, e5, mkSlot, mdOf, fr50, isC, and_self, reduceCtorEq]
  have a4 : itM Γ (callM Γ tb (k - 1)) (.l (.v 7)) [.sh .st, .sh (.int least), .sh (.int most), .sh (.int gone), .own (.lst (names.map .str)), .no, .sh (.int many), .sh (.lst (((names.drop most).take (nb + 1)).map .str)), .own (.lst ((names.take many).map .str)), .own (.lst []), .own (.lst (wds.map .str)), .no, .no, .no, .no] s5 = .ok (((names.drop most).take (nb + 1)).map .str) s5 := by
    simp only [itM, ev, List.getElem?_cons_succ, List.getElem?_cons_zero, bind_ok]
  have a5 : ev Γ (callM Γ tb (k - 1)) (.lst (.cons (.v 8) (.cons (.v 7) (.cons (.call 54 (.cons (.lst (.cons (.v 8) (.cons (.v 7) (.cons (.v 9) .nil)))) .nil)) .nil)))) [.sh .st, .sh (.int least), .sh (.int most), .sh (.int gone), .own (.lst (names.map .str)), z5, .sh (.int many), .sh (.lst (((names.drop most).take (nb + 1)).map .str)), .sh (.lst ((names.take many).map .str)), .sh (.lst (List.map rowD rows)), z10, z11, z12, z13, z14] s6
      = .ok (rawD { (⟨names.take many, (names.drop most).take (nb + 1), rows⟩ : Raw) with rw := srt ⟨names.take many, (names.drop most).take (nb + 1), rows⟩ }) s6 := by
    unfold rawD at hsr
    simp only [ev, evs, List.getElem?_cons_succ, List.getElem?_cons_zero, bind_ok, List.length_cons, List.length_nil, Nat.zero_add, Nat.reduceAdd, lim3, if_true, fl54, Bool.false_eq_true, if_false, hsr]
    rfl
  have hx := x_seq (Γ := Γ) (cf := callM Γ tb (k - 1)) (fr := true) (W := fuelW) (x_asg (i := 4) (ρ1 := [.sh .st, .sh (.int least), .sh (.int most), .sh (.int gone), .own (.lst (names.map .str)), .no, .no, .no, .no, .no, .no, .no, .no, .no, .no]) a1 (by simp [mkSlot, mdOf, isC]))
    (x_seq (x_par (is := [6, 7]) (ρ1 := [.sh .st, .sh (.int least), .sh (.int most), .sh (.int gone), .own (.lst (names.map .str)), .no, .sh (.int many), .own (.lst (((names.drop most).take (nb + 1)).map .str)), .no, .no, .no, .no, .no, .no, .no]) a2 (by simp [setL]))
    (x_seq (x_par (is := [8, 9, 10]) (ρ1 := [.sh .st, .sh (.int least), .sh (.int most), .sh (.int gone), .own (.lst (names.map .str)), .no, .sh (.int many), .own (.lst (((names.drop most).take (nb + 1)).map .str)), .own (.lst ((names.take many).map .str)), .own (.lst []), .own (.lst (wds.map .str)), .no, .no, .no, .no]) a3 (by simp [setL]))
    (x_seq (x_frz (is := [7]) (ρ1 := [.sh .st, .sh (.int least), .sh (.int most), .sh (.int gone), .own (.lst (names.map .str)), .no, .sh (.int many), .sh (.lst (((names.drop most).take (nb + 1)).map .str)), .own (.lst ((names.take many).map .str)), .own (.lst []), .own (.lst (wds.map .str)), .no, .no, .no, .no]) (by simp [frzE]))
    (x_seq (x_for a4 e6)
    (x_seq (x_frz (is := [7, 8, 9]) (ρ1 := [.sh .st, .sh (.int least), .sh (.int most), .sh (.int gone), .own (.lst (names.map .str)), z5, .sh (.int many), .sh (.lst (((names.drop most).take (nb + 1)).map .str)), .sh (.lst ((names.take many).map .str)), .sh (.lst (List.map rowD rows)), z10, z11, z12, z13, z14]) (by simp [frzE]))
    (x_rt (b := .skip) (x_ret a5 (by simp [retOk, mdOf]))))))))
  rw [run53 (by omega), show f53 = _ from rfl]
  refine (congrArg (fun x => Out.bind x endO) hx).trans ?_
  rfl
end
end K94
end
section
set_option Elab.async false
set_option linter.all false
set_option maxRecDepth 100000
set_option maxHeartbeats 4100000
namespace K94
open L2 IR
open PySem (Str PyData)
theorem nk_same (kvs : List (Nky × D)) (k : Nky) (d : D) : nkget (nkput kvs k d) k = some d := by
  unfold nkput nkget
  by_cases h : (kvs.any fun p => decide (p.1 = k)) = true
  · rw [if_pos h]
    induction kvs with
    | nil => simp at h
    | cons x xs ih =>
      rw [List.map_cons, List.find?_cons]
      by_cases e : x.1 = k
      · simp [e]
      · have e1 : decide (x.1 = k) = false := decide_eq_false e
        simp only [if_neg e, e1]
        exact ih (by simpa [List.any_cons, e1] using h)
  · rw [if_neg h, List.find?_append]
    have : (kvs.find? fun p => decide (p.1 = k)) = none := by
      rw [List.find?_eq_none]
      intro x hx hk
      exact h (List.any_eq_true.mpr ⟨x, hx, hk⟩)
    rw [this]
    simp
theorem nk_ne (kvs : List (Nky × D)) {k k' : Nky} (d : D) (hk : k' ≠ k) : nkget (nkput kvs k d) k' = nkget kvs k' := by
  unfold nkput nkget
  by_cases h : (kvs.any fun p => decide (p.1 = k)) = true
  · rw [if_pos h]
    clear h
    congr 1
    induction kvs with
    | nil => rfl
    | cons x xs ih =>
      rw [List.map_cons, List.find?_cons, List.find?_cons]
      by_cases e : x.1 = k
      · have e2 : decide (x.1 = k') = false := decide_eq_false fun z => hk (z.symm.trans e)
        simp only [if_pos e, e2]
        exact ih
      · simp only [if_neg e]
        cases decide (x.1 = k') with
        | true => rfl
        | false => exact ih
  · rw [if_neg h, List.find?_append]
    have e2 : decide (k = k') = false := decide_eq_false hk.symm
    cases (kvs.find? fun p => decide (p.1 = k')) with
    | some x => simp
    | none => simp [List.find?_cons, e2]
theorem nk_len (kvs : List (Nky × D)) (k : Nky) (d : D) : (nkput kvs k d).length ≤ kvs.length + 1 := by
  unfold nkput
  split
  · simp
  · simp
theorem strsOf_map (xs : List Str) : strsOf (xs.map D.str) = some xs := by
  induction xs with
  | nil => rfl
  | cons x xs ih => rw [List.map_cons, strsOf, ih]; rfl
def lD (xs : List Str) : D := .lst (xs.map .str)
structure TlI (pre : List Tr) (kvs : List (Nky × D)) : Prop where
  hd : ∀ t ∈ pre, nkget kvs (t.2.1, t.2.2) = some (lD t.1)
  fr : ∀ q d, nkget kvs q = some d → ∃ t ∈ pre, (t.2.1, t.2.2) = q ∧ d = lD t.1
theorem tlIn_ok : ∀ (post pre : List Tr) (kvs : List (Nky × D)), TlI pre kvs → (∀ t ∈ pre ++ post, t.2.1.length < 1000 ∧ ∀ x ∈ t.1, okS x) → kvs.length + post.length ≤ lim →
    ∃ b, tlIn (post.map trD) kvs = some b ∧ (b = true → ∃ t ∈ pre ++ post, ∃ u ∈ pre ++ post, t.2 = u.2 ∧ t.1 ≠ u.1) ∧ (b = false → ∀ t ∈ pre ++ post, ∀ u ∈ pre ++ post, t.2 = u.2 → t.1 = u.1) := by
  intro post
  induction post with
  | nil =>
    intro pre kvs I _ _
    refine ⟨false, rfl, (fun h => nomatch h), fun _ t ht u hu e => ?_⟩
    rw [List.append_nil] at ht hu
    have h1 := I.hd t ht
    have h2 := I.hd u hu
    rw [e, h2] at h1
    have h3 := Option.some.inj h1
    unfold lD at h3
    have h4 := D.lst.inj h3
    clear h3 h1 h2 e ht hu I
    generalize t.1 = a at h4
    generalize u.1 = c at h4
    induction a generalizing c with
    | nil => cases c with
      | nil => rfl
      | cons y ys => cases h4
    | cons x xs ih => cases c with
      | nil => cases h4
      | cons y ys =>
        rw [List.map_cons, List.map_cons] at h4
        have h5 := List.cons.inj h4
        rw [D.str.inj h5.1, ih ys h5.2]
  | cons t post ih =>
    intro pre kvs I hok hl
    obtain ⟨ps, ws, h⟩ := t
    have ht := hok (ps, ws, h) (by simp)
    have hc : ws.length < 1000 ∧ kvs.length < lim := ⟨ht.1, by simp only [List.length_cons] at hl; omega⟩
    have step : ∀ q, (nkget kvs (ws, h)).getD (.lst (ps.map .str)) = lD q → (∀ x ∈ q, okS x) → tlIn (((ps, ws, h) :: post).map trD) kvs = if q = ps then tlIn (post.map trD) (nkput kvs (ws, h) (lD ps)) else some true := fun q hq hqo => by
      rw [List.map_cons, trD, tlIn]
      dsimp only
      rw [strsOf_map]
      dsimp only
      rw [if_pos hc, hq]
      unfold lD
      rw [eqD_strs hqo ht.2]
      by_cases e : q = ps
      · rw [decide_eq_true e, if_pos e]
      · rw [decide_eq_false e, if_neg e]
    have go : ∀ q, (nkget kvs (ws, h)).getD (.lst (ps.map .str)) = lD q → (∀ x ∈ q, okS x) → q = ps → ∃ b, tlIn (((ps, ws, h) :: post).map trD) kvs = some b ∧ (b = true → ∃ t ∈ pre ++ (ps, ws, h) :: post, ∃ u ∈ pre ++ (ps, ws, h) :: post, t.2 = u.2 ∧ t.1 ≠ u.1) ∧ (b = false → ∀ t ∈ pre ++ (ps, ws, h) :: post, ∀ u ∈ pre ++ (ps, ws, h) :: post, t.2 = u.2 → t.1 = u.1) := fun q hq hqo e => by
      have e1 : pre ++ (ps, ws, h) :: post = (pre ++ [(ps, ws, h)]) ++ post := by simp
      rw [e1] at hok ⊢
      rw [step q hq hqo, if_pos e]
      refine ih _ _ ⟨fun t htm => ?_, fun r d hd => ?_⟩ hok (by have := nk_len kvs (ws, h) (lD ps); simp only [List.length_cons] at hl; omega)
      · rcases List.mem_append.mp htm with htm | htm
        · have h1 := I.hd t htm
          by_cases ek : (t.2.1, t.2.2) = (ws, h)
          · rw [ek] at h1
            rw [h1] at hq
            have hq : lD t.1 = lD q := hq
            rw [ek, nk_same, hq, e]
          · rw [nk_ne _ _ ek]
            exact h1
        · rw [List.mem_singleton.mp htm]
          exact nk_same _ _ _
      · by_cases ek : r = (ws, h)
        · rw [ek, nk_same] at hd
          exact ⟨(ps, ws, h), List.mem_append_right _ (List.mem_singleton.mpr rfl), ek.symm, (Option.some.inj hd).symm⟩
        · rw [nk_ne _ _ ek] at hd
          obtain ⟨t, h1, h2⟩ := I.fr r d hd
          exact ⟨t, List.mem_append_left _ h1, h2⟩
    cases hg : nkget kvs (ws, h) with
    | none => exact go ps (by rw [hg]; rfl) ht.2 rfl
    | some d =>
      obtain ⟨u, hu, hk, rfl⟩ := I.fr _ _ hg
      have huo := (hok u (List.mem_append_left _ hu)).2
      by_cases e : u.1 = ps
      · exact go u.1 (by rw [hg]; rfl) huo e
      · refine ⟨true, by rw [step u.1 (by rw [hg]; rfl) huo, if_neg e], fun _ => ⟨u, List.mem_append_left _ hu, (ps, ws, h), by simp, ?_, e⟩, (fun h => nomatch h)⟩
        exact hk
section
variable {k : Nat} {s : DS} {R : Raw}
theorem two_lists_m (ok : RawOk R) (hk : 9 ≤ k) {m : Nat} (hm : m ≤ 5) : ∃ b : Bool, callM Γ tb k 57 [rawD R, .int m] s = .ok (.bl b) s ∧ (b = true ↔ TL R m) := by
  rw [callM_prim (tb := tb) rfl hk (by omega) rfl]
  have key : ∀ (post pre : List Str), R.st = pre ++ post → (∀ one ∈ pre, ∀ t ∈ IR.AP R one m, ∀ u ∈ IR.AP R one m, t.2 = u.2 → t.1 = u.1) → ∃ b, tlOnes Γ2 (callM Γ2 tb2 5) 55 (rawD R) (.int m) (post.map .str) s = .ok (.bl b) s ∧ (b = true ↔ TL R m) := by
    intro post
    induction post with
    | nil =>
      intro pre e I
      refine ⟨false, rfl, (fun h => nomatch h), ?_⟩
      rintro ⟨st, hs, ps, qs, ws, h, l1, l2, h1, h2, hne⟩
      rw [e, List.append_nil] at hs
      exact absurd (I st hs (ps, ws, h) ((mem_AP ok).mpr ⟨l1, h1⟩) (qs, ws, h) ((mem_AP ok).mpr ⟨l2, h2⟩) rfl) hne
    | cons one post ih =>
      intro pre e I
      have ho : one ∈ R.st := by rw [e]; simp
      have hap := all_presses_g (Γ1 := Γ2) (tb1 := tb2) (s := s) (k := 5) rfl ok (by omega) ho hm
      have hfl : Γ2.fl 55 = false := rfl
      have hit : itM Γ2 (callM Γ2 tb2 5) (.l (.call 55 (.cons (.v 0) (.cons (.v 2) (.cons (.v 1) .nil))))) [.sh (rawD R), .sh (.int m), .sh (.str one), .no, .no, .no, .no, .no] s = .ok ((IR.AP R one m).map trD) s := by
        simp -implicitDefEqProofs only [itM, ev, evs, List.getElem?_cons_succ, List.getElem?_cons_zero, bind_ok, hfl, Bool.false_eq_true, if_false, hap]
      have hal : (IR.AP R one m).length ≤ 8 ^ 5 := Nat.le_trans (AP_len ok one _) (Nat.pow_le_pow_right (by decide) (by omega))
      obtain ⟨b, e1, h1, h2⟩ := tlIn_ok (IR.AP R one m) [] [] ⟨fun t h => (nomatch h), fun q d h => (nomatch h)⟩ (fun t ht => by
        rw [List.nil_append] at ht
        have h3 := AP_lens ok ht
        exact ⟨by omega, fun x hx => ok.bs _ ((play_ok ok ho ((mem_AP ok).mp ht).2).1 x hx)⟩) (le_lim (by simp only [List.length_nil]; omega))
      rw [List.nil_append] at h1 h2
      rw [List.map_cons, tlOnes, hit, bind_ok, e1]
      cases b with
      | true =>
        refine ⟨true, rfl, fun _ => ?_, fun _ => rfl⟩
        obtain ⟨t, ht, u, hu, e2, e3⟩ := h1 rfl
        obtain ⟨a1, a2⟩ := (mem_AP ok).mp ht
        obtain ⟨a3, a4⟩ := (mem_AP ok).mp hu
        exact ⟨one, ho, t.1, u.1, t.2.1, t.2.2, a1, a3, a2, by rw [a4, ← e2], e3⟩
      | false =>
        refine ih (pre ++ [one]) (by rw [e]; simp) fun o h => ?_
        (rcases List.mem_append.mp h with h | h)
        · exact I o h
        · rw [List.mem_singleton.mp h]
          exact h2 rfl
  obtain ⟨b, e, h⟩ := key R.st [] rfl fun o h => (nomatch h)
  refine ⟨b, ?_, h⟩
  have hit : itM Γ2 (callM Γ2 tb2 5) (.l (.sub (.rv 0) (.c (.int 0)))) [.sh (rawD R), .sh (.int m), .no, .no, .no, .no, .no, .no] s = .ok (R.st.map .str) s := by
    simp only [itM, ev, List.getElem?_cons_zero, bind_ok, sub_raw0, of_some]
  show tlM Γ2 (callM Γ2 tb2 5) 55 [rawD R, .int m] s = _
  rw [tlM, hit, bind_ok, e]
end
end K94
end
section
set_option Elab.async false
set_option linter.all false
set_option maxRecDepth 100000
set_option maxHeartbeats 4100000
namespace K94
open L2 IR
open PySem (Str PyData)
def oD : Option Nat → D
  | none => .non
  | some d => .int d
/-- rows with the same state, button and end -/
def likeR (x y : Row) : Prop := y.1 = x.1 ∧ y.2.1 = x.2.1 ∧ y.2.2.2 = x.2.2.2 ∧ okW y.2.2.1
theorem likes {xs ys : List Row} (hl : ys.length = xs.length) (h : ∀ (i : Nat) x y, xs[i]? = some x → ys[i]? = some y → likeR x y) : ys.map rkey = xs.map rkey ∧ ∀ y ∈ ys, ∃ x ∈ xs, likeR x y := by
  constructor
  · refine List.ext_getElem? fun i => ?_
    (rw [List.getElem?_map, List.getElem?_map])
    cases hx : xs[i]? with
    | none =>
      have : xs.length ≤ i := List.getElem?_eq_none_iff.mp hx
      rw [List.getElem?_eq_none_iff.mpr (by omega)]
    | some x =>
      obtain ⟨h1, _⟩ := List.getElem?_eq_some_iff.mp hx
      have hy : ys[i]? = some ys[i] := List.getElem?_eq_getElem (by omega)
      obtain ⟨a, b, _⟩ := h i x _ hx hy
      rw [hy]
      simp only [Option.map_some, rkey, a, b]
  · intro y hy
    (obtain ⟨i, hi⟩ := List.mem_iff_getElem?.mp hy)
    obtain ⟨h1, _⟩ := List.getElem?_eq_some_iff.mp hi
    have hx : xs[i]? = some xs[i] := List.getElem?_eq_getElem (by omega)
    exact ⟨_, List.mem_of_getElem? hx, h i _ y hx hi⟩
section
variable {s : DS}
/-- the last part of a turn: what is shown -/
theorem lw_c {R : Raw} (ok : RawOk R) {one : Str} (ho : one ∈ R.st) {trs : List Tr} (ht : ∀ t ∈ trs, t ∈ IR.AP R one 2) {x2 x3 x4 x5 x6 x8 x10 x11 x12 x13 x14 x15 : Slot} :
    Sat (forM (fun ρ s => IR.exec Γ (callM Γ tb 40) false fuelW bLaw_4 ρ s) (.t (.cons (.n 12) (.cons (.n 13) (.cons (.n 14) .nil)))) (trs.map trD) [.no, .sh .st, x2, x3, x4, x5, x6, .sh (boxD R), x8, .sh (.str one), x10, x11, x12, x13, x14, x15] s)
      (fun fl s' => s' = s ∧ ∃ x12 x13 x14, fl = .nx [.no, .sh .st, x2, x3, x4, x5, x6, .sh (boxD R), x8, .sh (.str one), x10, x11, x12, x13, x14, x15]) := by
  refine forM_sat (fun pre ρ s' => s' = s ∧ ∃ x12 x13 x14, ρ = [.no, .sh .st, x2, x3, x4, x5, x6, .sh (boxD R), x8, .sh (.str one), x10, x11, x12, x13, x14, x15]) ⟨rfl, x12, x13, x14, rfl⟩ ?_ ?_
  · rintro pre t post ρ s' e ⟨q1, y12, y13, y14, q2⟩
    subst q1
    subst q2
    refine ⟨_, rfl, ?_⟩
    simp only [List.set_cons_succ, List.set_cons_zero]
    have htm := ht t (by rw [e]; simp)
    obtain ⟨h1, h2⟩ := (mem_AP ok).mp htm
    have h3 := AP_lens ok htm
    have hpo := play_ok ok ho h2
    have hl : t.1.length ≤ lim := le_lim (by omega)
    have hsh := fun s => shown_m (s := s) ok (k := 40) (by omega) ho hl hpo.1
    have haf := fun s => after_m (s := s) ok (k := 40) (by omega) ho hl hpo.1
    rw [h2] at hsh haf
    have hw : ∀ w ∈ t.2.1, okS w := fun w hw => (hpo.2.1 w hw).s
    have hsame := same_list (k := 40) (s := s') (by omega) (enc := id) (xs := [.lst (t.2.1.map .str), .str t.2.2]) (by simp) fun x hx => by
      simp only [List.mem_cons, List.mem_nil_iff, or_false] at hx
      rcases hx with rfl | rfl
      · exact same_list (k := 39) (by omega) (enc := D.str) (le_lim (by omega)) fun x hx => same_str (by omega) (hw x hx)
      · exact same_str (k := 39) (by omega) (ok.ss _ hpo.2.2)
    rw [List.map_id] at hsame
    have hc : ev Γ (callM Γ tb 40) (.not (.call 46 (.cons (.lst (.cons (.call 28 (.cons (.v 7) (.cons (.v 9) (.cons (.v 12) .nil)))) (.cons (.call 29 (.cons (.v 7) (.cons (.v 9) (.cons (.v 12) .nil)))) .nil))) (.cons (.lst (.cons (.v 13) (.cons (.v 14) .nil))) .nil))))
        [.no, .sh .st, x2, x3, x4, x5, x6, .sh (boxD R), x8, .sh (.str one), x10, x11, .sh (.lst (t.1.map .str)), .sh (.lst (t.2.1.map .str)), .sh (.str t.2.2), x15] s' = .ok (.bl false) s' := by
      simp -implicitDefEqProofs only [ev, evs, List.getElem?_cons_succ, List.getElem?_cons_zero, bind_ok, fl28, fl29, fl46, Bool.false_eq_true, if_false, if_true, hsh, haf, List.length_cons, List.length_nil, Nat.zero_add, Nat.reduceAdd, lim2, hsame, flatO, flatD, onB_bl, Bool.not_true]
    refine sat_of (x_seq (x_iff hc x_skip) x_skip) ?_
    exact ⟨rfl, _, _, _, rfl⟩
  · rintro ρ s' ⟨q1, y12, y13, y14, q2⟩
    subst q1
    subst q2
    exact ⟨rfl, y12, y13, y14, rfl⟩
/-- the questions of a turn -/
theorem lw_b {R : Raw} (ok : RawOk R) {o : Option Nat} (h1 : o = none → ∃ p, Reach R p ∧ ∀ n, HP R n p) {kept : Bool} (h3 : kept = true → ∀ p, Reach R p → p.1 ≠ p.2) {x2 x4 x5 x6 x8 x9 x12 x13 x14 x15 : Slot} :
    Sat (forM (fun ρ s => IR.exec Γ (callM Γ tb 40) false fuelW bLaw_3 ρ s) (.n 8) ((List.range 4).map fun (i : Nat) => D.int (1 + (i : Int))) [.no, .sh .st, x2, .sh (rawD R), x4, x5, x6, .sh (boxD R), x8, x9, .sh (oD o), .sh (.bl kept), x12, x13, x14, x15] s)
      (fun fl s' => s' = s ∧ ∃ x8, fl = .nx [.no, .sh .st, x2, .sh (rawD R), x4, x5, x6, .sh (boxD R), x8, x9, .sh (oD o), .sh (.bl kept), x12, x13, x14, x15]) := by
  refine forM_sat (fun pre ρ s' => s' = s ∧ ∃ x8, ρ = [.no, .sh .st, x2, .sh (rawD R), x4, x5, x6, .sh (boxD R), x8, x9, .sh (oD o), .sh (.bl kept), x12, x13, x14, x15]) ⟨rfl, x8, rfl⟩ ?_ ?_
  · rintro pre i post ρ s' e ⟨q1, y8, q2⟩
    subst q1
    subst q2
    refine ⟨_, rfl, ?_⟩
    simp only [List.set_cons_succ, List.set_cons_zero]
    have hi : i < 4 := List.mem_range.mp (by rw [e]; simp)
    have hii : (1 : Int) + (i : Int) = ((i + 1 : Nat) : Int) := by omega
    rw [hii]
    obtain ⟨b1, e1, hb1⟩ := two_firsts_m (s := s') ok (k := 40) (by omega) (m := i + 1) (by omega) (by omega)
    obtain ⟨b2, e2, hb2⟩ := two_lists_m (s := s') ok (k := 40) (by omega) (m := i + 1) (by omega)
    have c1 : ev Γ (callM Γ tb 40) (.and (.isN (.rv 10)) (.not (.call 56 (.cons (.rv 3) (.cons (.rv 8) .nil))))) [.no, .sh .st, x2, .sh (rawD R), x4, x5, x6, .sh (boxD R), .sh (.int ((i + 1 : Nat) : Int)), x9, .sh (oD o), .sh (.bl kept), x12, x13, x14, x15] s' = .ok (.bl false) s' := by
      cases o with
      | none =>
        obtain ⟨p, hp, hpn⟩ := h1 rfl
        obtain ⟨q, hq, hqn⟩ := endless hp hpn
        have hb : b1 = true := hb1.mpr ((TF_iff ok i).mpr ⟨q, hq, hqn i⟩)
        rw [hb] at e1
        simp -implicitDefEqProofs only [ev, evs, List.getElem?_cons_succ, List.getElem?_cons_zero, bind_ok, oD, isNonD, onB_bl, if_true, fl56, e1, flatO, flatD, Bool.not_true, boolO_bl]
      | some d =>
        simp -implicitDefEqProofs only [ev, evs, List.getElem?_cons_succ, List.getElem?_cons_zero, bind_ok, oD, isNonD, onB_bl, Bool.false_eq_true, if_false]
    have c2 : ev Γ (callM Γ tb 40) (.and (.rv 11) (.call 57 (.cons (.rv 3) (.cons (.rv 8) .nil)))) [.no, .sh .st, x2, .sh (rawD R), x4, x5, x6, .sh (boxD R), .sh (.int ((i + 1 : Nat) : Int)), x9, .sh (oD o), .sh (.bl kept), x12, x13, x14, x15] s' = .ok (.bl false) s' := by
      cases kept with
      | true =>
        have hb : b2 = false := by
          cases b2 with
          | false => rfl
          | true => exact absurd (hb2.mp rfl) (TL_not ok (h3 rfl) _)
        rw [hb] at e2
        simp -implicitDefEqProofs only [ev, evs, List.getElem?_cons_succ, List.getElem?_cons_zero, bind_ok, onB_bl, if_true, fl57, e2, flatO, flatD, boolO_bl]
      | false =>
        simp -implicitDefEqProofs only [ev, evs, List.getElem?_cons_succ, List.getElem?_cons_zero, bind_ok, onB_bl, Bool.false_eq_true, if_false]
    refine sat_of (x_seq (x_iff c1 x_skip) (x_seq (x_iff c2 x_skip) x_skip)) ?_
    exact ⟨rfl, _, rfl⟩
  · rintro ρ s' ⟨q1, y8, q2⟩
    subst q1
    subst q2
    exact ⟨rfl, y8, rfl⟩
end
end K94
end
section
set_option Elab.async false
set_option linter.all false
set_option maxRecDepth 100000
set_option maxHeartbeats 4100000
namespace K94
open L2 IR
open PySem (Str PyData)
section
variable {s : DS}
theorem turn_ok {b : Nat} (hG : GB (b + 2000) s) {x2 x3 x4 x5 x6 x7 x8 x9 x10 x11 x12 x13 x14 x15 : Slot} :
    Sat (IR.exec Γ (callM Γ tb 40) false fuelW bLaw_6 [.no, .sh .st, x2, x3, x4, x5, x6, x7, x8, x9, x10, x11, x12, x13, x14, x15] s)
      (fun fl s' => GB b s' ∧ ∃ x2 x3 x4 x5 x6 x7 x8 x9 x10 x11 x12 x13 x14 x15, fl = .nx [.no, .sh .st, x2, x3, x4, x5, x6, x7, x8, x9, x10, x11, x12, x13, x14, x15]) := by
  obtain ⟨d1, s1, e1, hd1, hG1⟩ := one_m (s := s) (k := 40) (b := b + 1999) (by omega) hG (ds := [.int 2, .int 3, .int 4]) (by simp) (by simp)
  obtain ⟨most, rfl, hm1, hm2⟩ : ∃ n : Nat, d1 = .int n ∧ 2 ≤ n ∧ n ≤ 4 := by
    simp only [List.mem_cons, List.mem_nil_iff, or_false] at hd1
    rcases hd1 with rfl | rfl | rfl
    · exact ⟨2, rfl, by omega, by omega⟩
    · exact ⟨3, rfl, by omega, by omega⟩
    · exact ⟨4, rfl, by omega, by omega⟩
  obtain ⟨d2, s2, e2, hd2, hG2⟩ := one_m (s := s1) (k := 40) (b := b + 1998) (by omega) hG1 (ds := [.int 0, .int 2, .int 3]) (by simp) (by simp)
  obtain ⟨gone, rfl, hg1, hg2⟩ : ∃ n : Int, d2 = .int n ∧ 0 ≤ n ∧ n < 1000 := by
    simp only [List.mem_cons, List.mem_nil_iff, or_false] at hd2
    rcases hd2 with rfl | rfl | rfl
    · exact ⟨0, rfl, by omega, by omega⟩
    · exact ⟨2, rfl, by omega, by omega⟩
    · exact ⟨3, rfl, by omega, by omega⟩
  obtain ⟨R, s3, e3, ok, hsl, hsl2, hbl, hG3⟩ := draw_box_m (s := s2) (k := 40) (b := b + 900) (least := 1) (most := most) (by omega) (by omega) (by omega) (by omega) hg1 hg2 (hG2.mono (by omega))
  obtain ⟨ws, s4, e4, hwl, hwn, hww, hG4⟩ := words_m (s := s3) (k := 40) (b := b + 800) (n := 4) (by omega) (by omega) (hG3.mono (by omega))
  obtain ⟨own, s5, e5, _, _, hG5⟩ := pick_ok (s := s4) (b := b + 799) (m := 5) hG4 (by omega) (by omega)
  have hbt : ∀ x, x ∈ R.bt.take 3 → x ∈ R.bt := fun x h => List.mem_of_mem_take h
  have hbto : ∀ x ∈ R.bt.take 3, okS x := fun x h => ok.bs x (hbt x h)
  have hbl3 : (R.bt.take 3).length ≤ 3 := by rw [List.length_take]; omega
  -- the rows that are left
  have hlc1 : ev Γ (callM Γ tb 40) (.lc [15] eLaw_0 (.n 15) (.l (.sub (.rv 3) (.c (.int 2)))) cLaw_1) [.no, .sh .st, x2, .own (.lst [.lst (R.st.map .str), .lst ((R.bt.take 3).map .str), .lst (R.rw.map rowD)]), .own (.lst (ws.map .str)), .sh (.int own), x6, x7, x8, x9, x10, x11, x12, x13, x14, x15] s5
      = .ok (.lst ((R.rw.filter fun r => decide (r.2.1 ∈ R.bt.take 3)).map rowD)) s5 := by
    refine ev_lcc (ds := R.rw.map rowD) (s1 := s5) rfl (by simp -implicitDefEqProofs only [itM, ev, List.getElem?_cons_succ, List.getElem?_cons_zero, bind_ok, subD, atI_2, of_some]) (by rw [List.length_map]; exact le_lim (by have := ok.rwl; omega)) ?_
    refine lcM_pure (enc := rowD) (xs := R.rw) (p := .n 15) (ρ := [.no, .sh .st, x2, .own (.lst [.lst (R.st.map .str), .lst ((R.bt.take 3).map .str), .lst (R.rw.map rowD)]), .own (.lst (ws.map .str)), .sh (.int own), x6, x7, x8, x9, x10, x11, x12, x13, x14, .no]) (fun r => decide (r.2.1 ∈ R.bt.take 3)) rowD
      (fun r => [.no, .sh .st, x2, .own (.lst [.lst (R.st.map .str), .lst ((R.bt.take 3).map .str), .lst (R.rw.map rowD)]), .own (.lst (ws.map .str)), .sh (.int own), x6, x7, x8, x9, x10, x11, x12, x13, x14, .sh (rowD r)]) fun r hr => ⟨rfl, ?_, fun _ => by simp [eLaw_0, ev]⟩
    have hin := inD_strs (ok.bs _ (ok.rws r hr).2.1) hbto
    have h1 := sub_row1 r
    have h2 : subD (.lst [.lst (R.st.map .str), .lst ((R.bt.take 3).map .str), .lst (R.rw.map rowD)]) (.int 1) = some (.lst ((R.bt.take 3).map .str)) := atI_1 _ _ _
    simp -implicitDefEqProofs only [cLaw_1, ev, List.getElem?_cons_succ, List.getElem?_cons_zero, bind_ok, h1, h2, of_some, cmpD, hin, Option.map_some]
  have hrm : ∀ r ∈ R.rw.filter (fun r => decide (r.2.1 ∈ R.bt.take 3)), r ∈ R.rw ∧ r.2.1 ∈ R.bt.take 3 := fun r hr => by
    obtain ⟨h1, h2⟩ := List.mem_filter.mp hr
    exact ⟨h1, of_decide_eq_true h2⟩
  have hrn : ((R.rw.filter fun r => decide (r.2.1 ∈ R.bt.take 3)).map rkey).Nodup := List.Nodup.sublist (List.Sublist.map _ List.filter_sublist) ok.key
  have hrl : (R.rw.filter fun r => decide (r.2.1 ∈ R.bt.take 3)).length ≤ 64 := Nat.le_trans (List.length_filter_le _ _) ok.rwl
  generalize hrows : R.rw.filter (fun r => decide (r.2.1 ∈ R.bt.take 3)) = rows at hlc1 hrm hrn hrl
  -- some words are the buttons' own
  have hlcs := lcM_sat (p := .n 15) (ρ := [.no, .sh .st, x2, .own (.lst [.lst (R.st.map .str), .lst ((R.bt.take 3).map .str), .lst (R.rw.map rowD)]), .own (.lst (ws.map .str)), .sh (.int own), .own (.lst (rows.map rowD)), x7, x8, x9, x10, x11, x12, x13, x14, .no])
    (cnd := fun _ s => .ok (.bl true) s) (elt := fun ρ s => ev Γ (callM Γ tb 40) eLaw_2 ρ s) (enc := rowD) (xs := rows) (s := s5) rowD (fun n s => GB (b + 100 + n) s) likeR (hG5.mono (by omega)) fun r hr n s6 hG6 => ⟨[.no, .sh .st, x2, .own (.lst [.lst (R.st.map .str), .lst ((R.bt.take 3).map .str), .lst (R.rw.map rowD)]), .own (.lst (ws.map .str)), .sh (.int own), .own (.lst (rows.map rowD)), x7, x8, x9, x10, x11, x12, x13, x14, .sh (rowD r)], rfl, rfl, by
      obtain ⟨hr1, hr2⟩ := hrm r hr
      have same : ∀ s7, GB (b + 100 + n) s7 → ev Γ (callM Γ tb 40) (.v 15) [.no, .sh .st, x2, .own (.lst [.lst (R.st.map .str), .lst ((R.bt.take 3).map .str), .lst (R.rw.map rowD)]), .own (.lst (ws.map .str)), .sh (.int own), .own (.lst (rows.map rowD)), x7, x8, x9, x10, x11, x12, x13, x14, .sh (rowD r)] s7 = .ok (rowD r) s7 := fun s7 _ => by simp [ev]
      by_cases ho : 1 < own
      · obtain ⟨p, s7, e7, _, _, hG7⟩ := pick_ok (s := s6) (b := b + 100 + n) (m := 5) hG6 (by omega) (by omega)
        by_cases hp : 0 < p
        · have hix := idxD_strs (hbto _ hr2) hbto hr2
          have hil : (R.bt.take 3).idxOf r.2.1 < 4 := by
            have := List.idxOf_lt_length_iff.mpr hr2
            omega
          have hwi : ws[(R.bt.take 3).idxOf r.2.1]? = some ws[(R.bt.take 3).idxOf r.2.1] := List.getElem?_eq_getElem (by omega)
          generalize ws[(R.bt.take 3).idxOf r.2.1] = w at hwi
          have hat : atI (ws.map D.str) (((R.bt.take 3).idxOf r.2.1 : Nat) : Int) = some (.str w) := by rw [atI_map, atI_nat hwi]; rfl
          have h0 := sub_row0 r
          have h1 := sub_row1 r
          have h3 := sub_row3 r
          have h2 : subD (.lst [.lst (R.st.map .str), .lst ((R.bt.take 3).map .str), .lst (R.rw.map rowD)]) (.int 1) = some (.lst ((R.bt.take 3).map .str)) := atI_1 _ _ _
          have h4 : subD (.lst (ws.map D.str)) (.int (((R.bt.take 3).idxOf r.2.1 : Nat) : Int)) = some (.str w) := hat
          refine sat_of (a := rowD (r.1, r.2.1, w, r.2.2.2)) (s := s7) ?_ ⟨hG7, _, rfl, rfl, rfl, rfl, hww w (List.mem_of_getElem? hwi)⟩
          have ht : ev Γ (callM Γ tb 40) (.and (.cmp .gt (.rv 5) (.c (.int 1))) (.cmp .gt (.call 42 (.cons (.rv 1) (.cons (.c (.int 5)) .nil))) (.c (.int 0)))) [.no, .sh .st, x2, .own (.lst [.lst (R.st.map .str), .lst ((R.bt.take 3).map .str), .lst (R.rw.map rowD)]), .own (.lst (ws.map .str)), .sh (.int own), .own (.lst (rows.map rowD)), x7, x8, x9, x10, x11, x12, x13, x14, .sh (rowD r)] s6 = .ok (.bl true) s7 := by
            simp -implicitDefEqProofs only [ev, evs, List.getElem?_cons_succ, List.getElem?_cons_zero, bind_ok, cmpD, ho, decide_true, Option.map_some, of_some, onB_bl, if_true, fl42, pick_m (k := 40) (show 1 ≤ 40 by omega), e7, flatO, flatD, hp, boolO_bl]
          show ev Γ (callM Γ tb 40) eLaw_2 _ s6 = _
          rw [eLaw_2, ev_ife_t ht]
          simp -implicitDefEqProofs only [ev, evs, List.getElem?_cons_succ, List.getElem?_cons_zero, bind_ok, h0, h1, h2, h3, of_some, isLst, if_true, hix, h4, List.length_cons, List.length_nil, Nat.zero_add, Nat.reduceAdd, lim4]
          rfl
        · refine sat_of (a := rowD r) (s := s7) ?_ ⟨hG7, r, rfl, rfl, rfl, rfl, (ok.rws r hr1).2.2.1⟩
          have ht : ev Γ (callM Γ tb 40) (.and (.cmp .gt (.rv 5) (.c (.int 1))) (.cmp .gt (.call 42 (.cons (.rv 1) (.cons (.c (.int 5)) .nil))) (.c (.int 0)))) [.no, .sh .st, x2, .own (.lst [.lst (R.st.map .str), .lst ((R.bt.take 3).map .str), .lst (R.rw.map rowD)]), .own (.lst (ws.map .str)), .sh (.int own), .own (.lst (rows.map rowD)), x7, x8, x9, x10, x11, x12, x13, x14, .sh (rowD r)] s6 = .ok (.bl false) s7 := by
            simp -implicitDefEqProofs only [ev, evs, List.getElem?_cons_succ, List.getElem?_cons_zero, bind_ok, cmpD, ho, decide_true, Option.map_some, of_some, onB_bl, if_true, fl42, pick_m (k := 40) (show 1 ≤ 40 by omega), e7, flatO, flatD, hp, decide_false, boolO_bl]
          show ev Γ (callM Γ tb 40) eLaw_2 _ s6 = _
          rw [eLaw_2, ev_ife_f ht]
          exact same s7 hG7
      · refine sat_of (a := rowD r) (s := s6) ?_ ⟨hG6.mono (by omega), r, rfl, rfl, rfl, rfl, (ok.rws r hr1).2.2.1⟩
        have ht : ev Γ (callM Γ tb 40) (.and (.cmp .gt (.rv 5) (.c (.int 1))) (.cmp .gt (.call 42 (.cons (.rv 1) (.cons (.c (.int 5)) .nil))) (.c (.int 0)))) [.no, .sh .st, x2, .own (.lst [.lst (R.st.map .str), .lst ((R.bt.take 3).map .str), .lst (R.rw.map rowD)]), .own (.lst (ws.map .str)), .sh (.int own), .own (.lst (rows.map rowD)), x7, x8, x9, x10, x11, x12, x13, x14, .sh (rowD r)] s6 = .ok (.bl false) s6 := by
          simp -implicitDefEqProofs only [ev, evs, List.getElem?_cons_succ, List.getElem?_cons_zero, bind_ok, cmpD, ho, decide_false, Option.map_some, of_some, onB_bl, Bool.false_eq_true, if_false]
        show ev Γ (callM Γ tb 40) eLaw_2 _ s6 = _
        rw [eLaw_2, ev_ife_f ht]
        exact same s6 (hG6.mono (by omega))⟩
  obtain ⟨dsr, s7, e7, hG7, ys, rfl, hyl, hy⟩ := sat_ex hlcs
  obtain ⟨hyk, hym⟩ := likes hyl hy
  have ok2 : RawOk ⟨R.st, R.bt.take 3, ys⟩ := {
    stn := ok.stn
    stw := ok.stw
    st0 := ok.st0
    stl := ok.stl
    btn := List.Nodup.sublist (List.take_sublist _ _) ok.btn
    btw := fun x hx => ok.btw x (hbt x hx)
    bt0 := fun h => by
      have h : R.bt.take 3 = [] := h
      have := List.length_pos_iff.mpr ok.bt0
      have h2 := congrArg List.length h
      rw [List.length_take, List.length_nil] at h2
      omega
    btl := by show (R.bt.take 3).length ≤ 8; omega
    rws := fun y hy => by
      obtain ⟨x, hx, h1, h2, h3, h4⟩ := hym y hy
      obtain ⟨hx1, hx2⟩ := hrm x hx
      have := ok.rws x hx1
      exact ⟨by rw [h1]; exact this.1, by rw [h2]; exact hx2, h4, by rw [h3]; exact this.2.2.2⟩
    key := by rw [hyk]; exact hrn }
  generalize hR2 : (⟨R.st, R.bt.take 3, ys⟩ : Raw) = R2 at ok2
  have hraw : D.lst [.lst (R.st.map .str), .lst ((R.bt.take 3).map .str), .lst (ys.map rowD)] = rawD R2 := by rw [← hR2]; rfl
  have hlc2 : ev Γ (callM Γ tb 40) (.lc [15] eLaw_2 (.n 15) (.l (.rv 6)) .nop) [.no, .sh .st, x2, .own (.lst [.lst (R.st.map .str), .lst ((R.bt.take 3).map .str), .lst (R.rw.map rowD)]), .own (.lst (ws.map .str)), .sh (.int own), .own (.lst (rows.map rowD)), x7, x8, x9, x10, x11, x12, x13, x14, x15] s5 = .ok (.lst (ys.map rowD)) s7 :=
    ev_lc (s1 := s5) (ds := rows.map rowD) (by simp -implicitDefEqProofs only [itM, ev, List.getElem?_cons_succ, List.getElem?_cons_zero, bind_ok]) (by rw [List.length_map]; exact le_lim (by omega)) e7
  have hbox := box_of_m (s := s7) ok2 (k := 40) (by omega)
  obtain ⟨o, e8, ho1, ho2⟩ : ∃ o : Option Nat, callM Γ tb 40 40 [boxD R2] s7 = .ok (oD o) s7 ∧ (o = none → ∃ p, Reach R2 p ∧ ∀ n, HP R2 n p) ∧ ∀ d, o = some d → (∀ p ∈ firstP R2, ¬ HP R2 d p) ∧ (0 < d → ∃ p ∈ firstP R2, HP R2 (d - 1) p) := by
    obtain ⟨o, h1, h2⟩ := least_delay_m (s := s7) ok2 (k := 40) (by omega)
    refine ⟨o, ?_, h2⟩
    rw [h1]
    cases o <;> rfl
  obtain ⟨kept, rest, e9, hk⟩ := lossless_m (s := s7) ok2 (k := 40) (by omega)
  -- the questions about the delay
  have hq : ∀ y8 y9 y12 y13 y14 : Slot, IR.exec Γ (callM Γ tb 40) false fuelW (.if_ (.notN (.rv 10)) (.seq (.if_ (.or (.not (.call 48 (.cons (.rv 10) .nil))) (.and (.cmp .lt (.rv 10) (.c (.int 4))) (.call 56 (.cons (.rv 3) (.cons (.bin .add (.rv 10) (.c (.int 1))) .nil))))) (.seq (.ret (.c (.bl false))) (.skip)) (.skip)) (.seq (.if_ (.and (.ch .lt .lt (.c (.int 0)) (.rv 10) (.c (.int 5))) (.not (.call 56 (.cons (.rv 3) (.cons (.rv 10) .nil))))) (.seq (.ret (.c (.bl false))) (.skip)) (.skip)) (.skip))) (.skip))
      [.no, .sh .st, x2, .sh (rawD R2), .own (.lst (ws.map .str)), .sh (.int own), .own (.lst (rows.map rowD)), .sh (boxD R2), y8, y9, .sh (oD o), .sh (.bl kept), y12, y13, y14, x15] s7
      = .ok (.nx [.no, .sh .st, x2, .sh (rawD R2), .own (.lst (ws.map .str)), .sh (.int own), .own (.lst (rows.map rowD)), .sh (boxD R2), y8, y9, .sh (oD o), .sh (.bl kept), y12, y13, y14, x15]) s7 := fun y8 y9 y12 y13 y14 => by
    cases o with
    | none =>
      refine x_iff (s1 := s7) ?_ x_skip
      simp -implicitDefEqProofs only [ev, List.getElem?_cons_succ, List.getElem?_cons_zero, bind_ok, oD, isNonD, Bool.not_true]
    | some d =>
      have hn := is_number_m (s := s7) (k := 40) (by omega) d
      refine x_ift (s1 := s7) ?_ (x_seq (x_iff (s1 := s7) ?_ x_skip) (x_seq (x_iff (s1 := s7) ?_ x_skip) x_skip))
      · simp -implicitDefEqProofs only [ev, List.getElem?_cons_succ, List.getElem?_cons_zero, bind_ok, oD, isNonD, Bool.not_false]
      · by_cases hd : (d : Int) < 4
        · obtain ⟨bf, e10, hbf⟩ := two_firsts_m (s := s7) ok2 (k := 40) (by omega) (m := d + 1) (by omega) (by omega)
          have hb : bf = false := by
            cases bf with
            | false => rfl
            | true =>
              obtain ⟨p, hp, hh⟩ := (TF_iff ok2 d).mp (hbf.mp rfl)
              exact absurd hh ((ho2 d rfl).1 p hp)
          rw [hb] at e10
          have hdd : ((d : Int) + 1) = ((d + 1 : Nat) : Int) := by omega
          simp -implicitDefEqProofs only [ev, evs, List.getElem?_cons_succ, List.getElem?_cons_zero, bind_ok, oD, fl48, if_true, hn, flatO, flatD, onB_bl, Bool.not_true, Bool.false_eq_true, if_false, cmpD, hd, decide_true, Option.map_some, of_some, fl56, binD, hdd, e10, boolO_bl]
        · simp -implicitDefEqProofs only [ev, evs, List.getElem?_cons_succ, List.getElem?_cons_zero, bind_ok, oD, fl48, if_true, hn, flatO, flatD, onB_bl, Bool.not_true, Bool.false_eq_true, if_false, cmpD, hd, decide_false, Option.map_some, of_some, boolO_bl]
      · by_cases hd0 : (0 : Int) < d
        · by_cases hd5 : (d : Int) < 5
          · obtain ⟨bf, e10, hbf⟩ := two_firsts_m (s := s7) ok2 (k := 40) (by omega) (m := d) (by omega) (by omega)
            have hb : bf = true := by
              obtain ⟨p, hp, hh⟩ := (ho2 d rfl).2 (by omega)
              refine hbf.mpr ?_
              have := (TF_iff ok2 (d - 1)).mpr ⟨p, hp, hh⟩
              rw [show d - 1 + 1 = d by omega] at this
              exact this
            rw [hb] at e10
            simp -implicitDefEqProofs only [ev, evs, List.getElem?_cons_succ, List.getElem?_cons_zero, bind_ok, oD, cmpD, hd0, hd5, decide_true, Option.map_some, of_some, onB_bl, if_true, fl56, e10, flatO, flatD, Bool.not_true, boolO_bl]
          · simp -implicitDefEqProofs only [ev, evs, List.getElem?_cons_succ, List.getElem?_cons_zero, bind_ok, oD, cmpD, hd0, hd5, decide_true, decide_false, Option.map_some, of_some, onB_bl, Bool.false_eq_true, if_false]
        · simp -implicitDefEqProofs only [ev, evs, List.getElem?_cons_succ, List.getElem?_cons_zero, bind_ok, oD, cmpD, hd0, decide_false, onB_bl, Bool.false_eq_true, if_false]
  obtain ⟨fl2, s8, e10, q1, z8, q2⟩ := sat_ex (lw_b (s := s7) ok2 ho1 hk (x2 := x2) (x4 := .own (.lst (ws.map .str))) (x5 := .sh (.int own)) (x6 := .own (.lst (rows.map rowD))) (x8 := x8) (x9 := x9) (x12 := x12) (x13 := x13) (x14 := x14) (x15 := x15))
  subst q1
  subst q2
  obtain ⟨d3, s9, e11, hd3, hG9⟩ := one_m (s := s8) (k := 40) (b := b + 99) (by omega) (hG7.mono (by omega)) (ds := R2.st.map .str) (by simpa using ok2.st0) (by have := ok2.stl; simp; omega)
  obtain ⟨one, ho3, rfl⟩ := List.mem_map.mp hd3
  have hap := all_presses_m (s := s9) ok2 (k := 40) (by omega) ho3 (m := 2) (by omega)
  obtain ⟨fl3, s10, e12, q1, z12, z13, z14, q2⟩ := sat_ex (lw_c (s := s9) ok2 ho3 (trs := (IR.AP R2 one 2).take 6) (fun t ht => List.mem_of_mem_take ht) (x2 := x2) (x3 := .sh (rawD R2)) (x4 := .own (.lst (ws.map .str))) (x5 := .sh (.int own)) (x6 := .own (.lst (rows.map rowD))) (x8 := z8) (x10 := .sh (oD o)) (x11 := .sh (.bl kept)) (x12 := x12) (x13 := x13) (x14 := x14) (x15 := x15))
  subst q1
  subst q2
  have e3' : callM Γ tb 40 53 [.st, .int 1, .int most, .int gone] s2 = .ok (rawD R) s3 := e3
  have e4' : callM Γ tb 40 50 [.st, .int 4] s3 = .ok (.lst (ws.map .str)) s4 := e4
  have hap' : callM Γ tb 40 55 [rawD R2, .str one, .int 2] s10 = .ok (.lst ((IR.AP R2 one 2).map trD)) s10 := hap
  have c3 : cutL (R.bt.map D.str) none (some 3) = (R.bt.take 3).map D.str := by
    rw [cutL_map]
    exact congrArg (List.map D.str) (cut_to _ 3)
  have c6 : cutL ((IR.AP R2 one 2).map trD) none (some 6) = ((IR.AP R2 one 2).take 6).map trD := by
    rw [cutL_map]
    exact congrArg (List.map trD) (cut_to _ 6)
  have r0 : subD (.lst [.lst (R.st.map .str), .lst (R.bt.map .str), .lst (R.rw.map rowD)]) (.int 1) = some (.lst (R.bt.map .str)) := atI_1 _ _ _
  have r2 := sub_raw0 R2
  have a1 : ev Γ (callM Γ tb 40) (.call 53 (.cons (.v 1) (.cons (.c (.int 1)) (.cons (.call 44 (.cons (.v 1) (.cons (.lst (.cons (.c (.int 2)) (.cons (.c (.int 3)) (.cons (.c (.int 4)) .nil)))) .nil))) (.cons (.call 44 (.cons (.v 1) (.cons (.lst (.cons (.c (.int 0)) (.cons (.c (.int 2)) (.cons (.c (.int 3)) .nil)))) .nil))) .nil))))) [.no, .sh .st, x2, x3, x4, x5, x6, x7, x8, x9, x10, x11, x12, x13, x14, x15] s = .ok (.lst [.lst (R.st.map .str), .lst (R.bt.map .str), .lst (R.rw.map rowD)]) s3 := by
    simp -implicitDefEqProofs only [ev, evs, List.getElem?_cons_succ, List.getElem?_cons_zero, bind_ok, List.length_cons, List.length_nil, Nat.zero_add, Nat.reduceAdd, lim3, if_true, fl44, fl53, Bool.false_eq_true, if_false, e1, e2, e3']
    rfl
  have a2 : ev Γ (callM Γ tb 40) (.sl (.sub (.rv 3) (.c (.int 1))) .nop (.c (.int 3))) [.no, .sh .st, x2, .own (.lst [.lst (R.st.map .str), .lst (R.bt.map .str), .lst (R.rw.map rowD)]), x4, x5, x6, x7, x8, x9, x10, x11, x12, x13, x14, x15] s3 = .ok (.lst ((R.bt.take 3).map .str)) s3 := by
    simp -implicitDefEqProofs only [ev, List.getElem?_cons_succ, List.getElem?_cons_zero, bind_ok, r0, of_some, isNop_nop, isNop_c, if_true, Bool.false_eq_true, if_false, intO, slD, c3]
  have a4 : ev Γ (callM Γ tb 40) (.call 50 (.cons (.v 1) (.cons (.c (.int 4)) .nil))) [.no, .sh .st, x2, .own (.lst [.lst (R.st.map .str), .lst ((R.bt.take 3).map .str), .lst (R.rw.map rowD)]), x4, x5, x6, x7, x8, x9, x10, x11, x12, x13, x14, x15] s3 = .ok (.lst (ws.map .str)) s4 := by
    simp -implicitDefEqProofs only [ev, evs, List.getElem?_cons_succ, List.getElem?_cons_zero, bind_ok, fl50, Bool.false_eq_true, if_false, e4']
  have a5 : ev Γ (callM Γ tb 40) (.call 42 (.cons (.rv 1) (.cons (.c (.int 5)) .nil))) [.no, .sh .st, x2, .own (.lst [.lst (R.st.map .str), .lst ((R.bt.take 3).map .str), .lst (R.rw.map rowD)]), .own (.lst (ws.map .str)), x5, x6, x7, x8, x9, x10, x11, x12, x13, x14, x15] s4 = .ok (.int own) s5 := by
    simp -implicitDefEqProofs only [ev, evs, List.getElem?_cons_succ, List.getElem?_cons_zero, bind_ok, fl42, if_true, pick_m (k := 40) (show 1 ≤ 40 by omega), e5, flatO, flatD]
  have a7 : ev Γ (callM Γ tb 40) (.call 51 (.cons (.v 3) .nil)) [.no, .sh .st, x2, .sh (rawD R2), .own (.lst (ws.map .str)), .sh (.int own), .own (.lst (rows.map rowD)), x7, x8, x9, x10, x11, x12, x13, x14, x15] s8 = .ok (boxD R2) s8 := by
    simp -implicitDefEqProofs only [ev, evs, List.getElem?_cons_succ, List.getElem?_cons_zero, bind_ok, fl51, Bool.false_eq_true, if_false, hbox]
  have hkp : eqD (.str (if kept then "kept" else "clash")) (.str "kept") = some kept := by
    have o1 : okS "kept" := by show PyData.strOk "kept" = true; decide +kernel
    have o2 : okS "clash" := by show PyData.strOk "clash" = true; decide +kernel
    cases kept with
    | true => exact (eqD_str o1 o1).trans (by rw [decide_eq_true rfl])
    | false => exact (eqD_str o2 o1).trans (congrArg some (decide_eq_false (by decide +kernel)))
  have a8 : evp Γ (callM Γ tb 40) (.cons (.call 40 (.cons (.rv 7) .nil)) (.cons (.cmp .eq (.sub (.call 34 (.cons (.v 7) .nil)) (.c (.int 0))) (.c (.str "kept"))) .nil)) [.no, .sh .st, x2, .sh (rawD R2), .own (.lst (ws.map .str)), .sh (.int own), .own (.lst (rows.map rowD)), .sh (boxD R2), x8, x9, x10, x11, x12, x13, x14, x15] s8 = .ok [.sh (oD o), .sh (.bl kept)] s8 := by
    have hfo : flatO (.ok (oD o) s8) = .ok (oD o) s8 := by cases o <;> rfl
    have hmk : mkSlot .rep (oD o) = .sh (oD o) := by simp [mkSlot]
    have hmb : mkSlot .rep (.bl kept) = .sh (.bl kept) := by simp [mkSlot]
    have hs0 : subD (.tup (.str (if kept then "kept" else "clash") :: rest)) (.int 0) = some (.str (if kept then "kept" else "clash")) := atI_0 _ _
    simp -implicitDefEqProofs only [evp, ev, evs, List.getElem?_cons_succ, List.getElem?_cons_zero, bind_ok, fl40, if_true, e8, hfo, mdOf, fr40, Bool.false_eq_true, if_false, hmk, fl34, e9, hs0, of_some, cmpD, hkp, Option.map_some, hmb]
  have a9 : ev Γ (callM Γ tb 40) (.call 44 (.cons (.v 1) (.cons (.sub (.rv 3) (.c (.int 0))) .nil))) [.no, .sh .st, x2, .sh (rawD R2), .own (.lst (ws.map .str)), .sh (.int own), .own (.lst (rows.map rowD)), .sh (boxD R2), z8, x9, .sh (oD o), .sh (.bl kept), x12, x13, x14, x15] s8 = .ok (.str one) s10 := by
    simp -implicitDefEqProofs only [ev, evs, List.getElem?_cons_succ, List.getElem?_cons_zero, bind_ok, r2, of_some, fl44, Bool.false_eq_true, if_false, e11]
  have hit1 : itM Γ (callM Γ tb 40) (.r2 (.c (.int 1)) (.c (.int 5))) [.no, .sh .st, x2, .sh (rawD R2), .own (.lst (ws.map .str)), .sh (.int own), .own (.lst (rows.map rowD)), .sh (boxD R2), x8, x9, .sh (oD o), .sh (.bl kept), x12, x13, x14, x15] s8 = .ok ((List.range 4).map fun (i : Nat) => D.int (1 + (i : Int))) s8 :=
    itM_r2 (m := 1) (n := 5) (s' := s8) (s2 := s8) (by rw [ev]; rfl) (by rw [ev]; rfl) (by omega) (by omega)
  have hit2 : itM Γ (callM Γ tb 40) (.l (.sl (.call 55 (.cons (.v 3) (.cons (.v 9) (.cons (.c (.int 2)) .nil)))) .nop (.c (.int 6)))) [.no, .sh .st, x2, .sh (rawD R2), .own (.lst (ws.map .str)), .sh (.int own), .own (.lst (rows.map rowD)), .sh (boxD R2), z8, .sh (.str one), .sh (oD o), .sh (.bl kept), x12, x13, x14, x15] s10 = .ok (((IR.AP R2 one 2).take 6).map trD) s10 := by
    simp -implicitDefEqProofs only [itM, ev, evs, List.getElem?_cons_succ, List.getElem?_cons_zero, bind_ok, fl55, Bool.false_eq_true, if_false, hap', isNop_nop, isNop_c, if_true, intO, slD, c6, of_some]
  have h3 : ∀ d : D, isC d = true → mkSlot .fr d = .own d := fun d h => by simp [mkSlot, h]
  have h4 : ∀ d : D, mkSlot .rep d = .sh d := fun d => by simp [mkSlot]
  refine sat_of (x_seq (x_asg (i := 3) (ρ1 := [.no, .sh .st, x2, .own (.lst [.lst (R.st.map .str), .lst (R.bt.map .str), .lst (R.rw.map rowD)]), x4, x5, x6, x7, x8, x9, x10, x11, x12, x13, x14, x15]) a1 (by simp [mkSlot, mdOf, isC]))
    (x_seq (x_setl (i := 3) (j := 1) (n := 0) (ρ1 := [.no, .sh .st, x2, .own (.lst [.lst (R.st.map .str), .lst ((R.bt.take 3).map .str), .lst (R.rw.map rowD)]), x4, x5, x6, x7, x8, x9, x10, x11, x12, x13, x14, x15]) a2 rfl (s2 := s3) (by rw [ev]; rfl) (by simp) (by simp))
    (x_seq (x_asg (i := 4) (ρ1 := [.no, .sh .st, x2, .own (.lst [.lst (R.st.map .str), .lst ((R.bt.take 3).map .str), .lst (R.rw.map rowD)]), .own (.lst (ws.map .str)), x5, x6, x7, x8, x9, x10, x11, x12, x13, x14, x15]) a4 (by simp [mkSlot, mdOf, isC]))
    (x_seq (x_asg (i := 5) (ρ1 := [.no, .sh .st, x2, .own (.lst [.lst (R.st.map .str), .lst ((R.bt.take 3).map .str), .lst (R.rw.map rowD)]), .own (.lst (ws.map .str)), .sh (.int own), x6, x7, x8, x9, x10, x11, x12, x13, x14, x15]) a5 (by simp [mkSlot, mdOf, isC]))
    (x_seq (x_asg (i := 6) (ρ1 := [.no, .sh .st, x2, .own (.lst [.lst (R.st.map .str), .lst ((R.bt.take 3).map .str), .lst (R.rw.map rowD)]), .own (.lst (ws.map .str)), .sh (.int own), .own (.lst (rows.map rowD)), x7, x8, x9, x10, x11, x12, x13, x14, x15]) hlc1 (by simp [mkSlot, mdOf, isC]))
    (x_seq (x_setl (i := 3) (j := 2) (n := 0) (ρ1 := [.no, .sh .st, x2, .own (rawD R2), .own (.lst (ws.map .str)), .sh (.int own), .own (.lst (rows.map rowD)), x7, x8, x9, x10, x11, x12, x13, x14, x15]) hlc2 rfl (s2 := s8) (by rw [ev]; rfl) (by simp) (by rw [← hraw]; rfl))
    (x_seq (x_frz (is := [3]) (ρ1 := [.no, .sh .st, x2, .sh (rawD R2), .own (.lst (ws.map .str)), .sh (.int own), .own (.lst (rows.map rowD)), x7, x8, x9, x10, x11, x12, x13, x14, x15]) (by simp [frzE]))
    (x_seq (x_asg (i := 7) (ρ1 := [.no, .sh .st, x2, .sh (rawD R2), .own (.lst (ws.map .str)), .sh (.int own), .own (.lst (rows.map rowD)), .sh (boxD R2), x8, x9, x10, x11, x12, x13, x14, x15]) a7 (by simp [mkSlot, mdOf]))
    (x_seq (x_par (is := [10, 11]) (ρ1 := [.no, .sh .st, x2, .sh (rawD R2), .own (.lst (ws.map .str)), .sh (.int own), .own (.lst (rows.map rowD)), .sh (boxD R2), x8, x9, .sh (oD o), .sh (.bl kept), x12, x13, x14, x15]) a8 (by simp [setL]))
    (x_seq (hq x8 x9 x12 x13 x14)
    (x_seq (x_for hit1 e10)
    (x_seq (x_asg (i := 9) (ρ1 := [.no, .sh .st, x2, .sh (rawD R2), .own (.lst (ws.map .str)), .sh (.int own), .own (.lst (rows.map rowD)), .sh (boxD R2), z8, .sh (.str one), .sh (oD o), .sh (.bl kept), x12, x13, x14, x15]) a9 (by simp [mkSlot, mdOf]))
    (x_seq (x_frz (is := [3]) (ρ1 := [.no, .sh .st, x2, .sh (rawD R2), .own (.lst (ws.map .str)), .sh (.int own), .own (.lst (rows.map rowD)), .sh (boxD R2), z8, .sh (.str one), .sh (oD o), .sh (.bl kept), x12, x13, x14, x15]) (by simp [frzE]))
    (x_seq (x_for hit2 e12) x_skip)))))))))))))) ?_
  exact ⟨hG9.mono (by omega), _, _, _, _, _, _, _, _, _, _, _, _, _, _, rfl⟩
theorem plain : ∀ ns : List Int, ns.length ≤ 63 → ∃ s', IR.exec Γ (callM Γ tb 40) false fuelW fLaw (.no :: .sh .st :: List.replicate (N58.length - 2) .no) ⟨ns, 0, 0, 29⟩ = .ok (.rt (.bl true)) s' := by
  intro ns hn
  have hG : GB 8000 (⟨ns, 0, 0, 29⟩ : DS) := ⟨by dsimp only; omega, by dsimp only; omega, by dsimp only; omega, by dsimp only; omega, by dsimp only; omega⟩
  have hs : Sat (forM (fun ρ s => IR.exec Γ (callM Γ tb 40) false fuelW bLaw_6 ρ s) (.n 2) ((List.range 4).map nI) [.no, .sh .st, .no, .no, .no, .no, .no, .no, .no, .no, .no, .no, .no, .no, .no, .no] ⟨ns, 0, 0, 29⟩)
      (fun fl s' => ∃ ρ, fl = .nx ρ) := by
    refine forM_sat (fun pre ρ s' => GB (8000 - 2000 * pre.length) s' ∧ ∃ x2 x3 x4 x5 x6 x7 x8 x9 x10 x11 x12 x13 x14 x15, ρ = [.no, .sh .st, x2, x3, x4, x5, x6, x7, x8, x9, x10, x11, x12, x13, x14, x15]) ⟨hG, _, _, _, _, _, _, _, _, _, _, _, _, _, _, rfl⟩ ?_ ?_
    · rintro pre i post ρ s' e ⟨hG1, y2, y3, y4, y5, y6, y7, y8, y9, y10, y11, y12, y13, y14, y15, q2⟩
      subst q2
      refine ⟨_, rfl, ?_⟩
      simp only [List.set_cons_succ, List.set_cons_zero]
      have hpl : pre.length < 4 := by
        have := congrArg List.length e
        simp at this
        omega
      refine sat_mono (turn_ok (b := 8000 - 2000 * (pre.length + 1)) (hG1.mono (by omega))) fun fl s2 h => ?_
      obtain ⟨hG2, z2, z3, z4, z5, z6, z7, z8, z9, z10, z11, z12, z13, z14, z15, q⟩ := h
      subst q
      exact ⟨by rw [List.length_append]; exact hG2, _, _, _, _, _, _, _, _, _, _, _, _, _, _, rfl⟩
    · rintro ρ s' _
      exact ⟨ρ, rfl⟩
  obtain ⟨fl, s2, e, ρ, q⟩ := sat_ex hs
  subst q
  have hit : itM Γ (callM Γ tb 40) (.r1 (.c (.int 4))) [.no, .sh .st, .no, .no, .no, .no, .no, .no, .no, .no, .no, .no, .no, .no, .no, .no] ⟨ns, 0, 0, 29⟩ = .ok ((List.range 4).map nI) ⟨ns, 0, 0, 29⟩ := by
    rw [← rangeD_eq]
    exact itM_r1 (n := 4) (by rw [ev]; rfl) (by omega)
  refine ⟨s2, ?_⟩
  show IR.exec Γ (callM Γ tb 40) false fuelW (.seq (.for_ (.n 2) (.r1 (.c (.int 4))) bLaw_6) tLaw_7) [.no, .sh .st, .no, .no, .no, .no, .no, .no, .no, .no, .no, .no, .no, .no, .no, .no] ⟨ns, 0, 0, 29⟩ = _
  refine x_seq (x_for hit e) (x_rt (b := .skip) (x_ret (e := .c (.bl true)) (by rw [ev]) (by simp [retOk])))
end
end K94
end
section
set_option Elab.async false
set_option linter.all false
open L2 PySem PySem.Spec PyProof.Rows
theorem PySem.Challenge.cw_pressrecord_k94_whole_buttons_read_from_holds : PySem.Challenge.rw_pressrecord_k94_whole_buttons_read_from.Holds := by
  exact K94.holds K94.plain
end
