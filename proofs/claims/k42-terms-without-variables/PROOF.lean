import PyProof.Rows.All
import Wide.All
import OpenK.AllK
import Wide.FinOn
import HandS.ForMost
import HandS.ForExc
import HandS.ExcInit
import HandS.TryMany
import HandS.CallLocal
import HandS.Small
import HandS.IsInst
import HandS.Flow
import HandS.RaiseMore
import HandS.TupAny
import HandS.Deep
import HandS.TupMul
import HandS.SortInts
import HandS.DictComp
import HandS.SetKeys
import HandS.Rev
import HandS.Zip
import KE.KDictZip
import HandS.Zip0
import HandS.OwnIter
import PyProof.ListNew
import PyProof.StrBlock2
import PyProof.Rows.StrJoinRep
import HandS.Style
import PySem.Challenge.RW_normalhouse_k42_terms_without_variables
set_option Elab.async false
set_option linter.all false
set_option maxRecDepth 100000
set_option maxHeartbeats 4000000
/-! Mini, part A: plain data (tuples by value), a store of mutable cells, how they lie in the abstract heap -/
namespace L2
namespace Mini
open PySem PySem.Spec PyProof.Rows
/-- plain data; a text is its list of codes; a list, a dict, an instance is known by its address -/
inductive D where
  | non | bl (b : Bool) | int (i : Int) | str (l : List Nat) | tup (ds : List D) | ref (a : Addr) | fn (f : Nat)
/-- keys of dicts -/
abbrev Ky := Sum Int (List Nat)
/-- what stands in the store: a list, a list that is only read (the script), a dict with int and text keys, an instance -/
inductive Cell where
  | lst (ds : List D) | fls (ds : List D) | dct (kvs : List (Ky × D)) | ins (c : Nat) (fs : List (Nat × D))
abbrev Sto := Addr → Option Cell
def Sto.upd (S : Sto) (a : Addr) (c : Cell) : Sto := fun b => if b = a then some c else S b
theorem Sto.upd_same {S : Sto} {a : Addr} {c : Cell} : S.upd a c a = some c := by unfold Sto.upd; rw [if_pos rfl]
theorem Sto.upd_ne {S : Sto} {a b : Addr} {c : Cell} (h : b ≠ a) : S.upd a c b = S b := by unfold Sto.upd; rw [if_neg h]
/-- names by number: attributes, classes, functions -/
structure Nm where
  K : PySem.W.Frag
  fld : Nat → Str
  cla : Nat → Addr
  fa : Nat → Addr
  mn : Nat → Str
  nc : Nat
  nx : Nat
  nf : Nat
  nfx : Nat
  fnn : Nat → Str
  cln : Nat → Str
  nob : List Str
  con : Nat → Option (Str × D)
  nfn : Nat
  xfl : Nat → List Nat
  ni : Nat → Bool
  inj : ∀ i j, i < nf → j < nf → fld i = fld j → i = j
  par : Option Params := none
  kdc : Nat → Option (Str × List (List Nat × D)) := fun _ => none
/-- a text's codes as the model has it -/
def st (l : List Nat) : Str := ⟨l.toArray⟩
theorem st_inj {a b : List Nat} (h : st a = st b) : a = b := by
  have q : a.toArray = b.toArray := congrArg Str.cps h
  simpa using congrArg Array.toList q
theorem st_cps (l : List Nat) : (st l).cps.toList = l := by simp [st]
theorem st_of (x : Str) : st x.cps.toList = x := by cases x; simp [st]
theorem st_length (l : List Nat) : (st l).length = l.length := by
  show (st l).cps.size = l.length
  simp [st]
/-- a tuple stands at a: tracked, or of the module -/
def TupAt (K : PySem.W.Frag) (H : Hp) (a : Addr) (vs : List V) : Prop :=
  H a = some (.tup vs) ∨ ∃ (o : Obj) (its : Array Value) (n : Nat), K.lookup a = some o ∧ o.cls = .type "tuple" ∧ o.data = .seq its n ∧ its.size ≤ sizeLine ∧ Vals vs its.toList
theorem TupAt.sq {K : PySem.W.Frag} {H : Hp} {a : Addr} {vs : List V} (h : TupAt K H a vs) : SqT K H a vs := by
  rcases h with h | h
  · exact SqT.of h
  · exact .inr h
mutual
inductive RD (Z : Nm) (H : Hp) : D → V → Prop
  | non : RD Z H .non .non
  | bl {b} : RD Z H (.bl b) (.bl b)
  | int {i} : RD Z H (.int i) (.int i)
  | str {l} : RD Z H (.str l) (.str (st l))
  | tup {ds vs a} : TupAt Z.K H a vs → RDs Z H ds vs → RD Z H (.tup ds) (.ref a)
  | ref {a} : RD Z H (.ref a) (.ref a)
  | fn {f} : RD Z H (.fn f) (.ref (Z.fa f))
inductive RDs (Z : Nm) (H : Hp) : List D → List V → Prop
  | nil : RDs Z H [] []
  | cons {d v ds vs} : RD Z H d v → RDs Z H ds vs → RDs Z H (d :: ds) (v :: vs)
end
/-- the tuples stay -/
def TK (H H' : Hp) : Prop := ∀ a vs, H a = some (.tup vs) → H' a = some (.tup vs)
theorem TK.refl (H : Hp) : TK H H := fun _ _ h => h
theorem TK.trans {H H1 H2 : Hp} (a : TK H H1) (b : TK H1 H2) : TK H H2 := fun c vs h => b c vs (a c vs h)
theorem TupAt.keep {K : PySem.W.Frag} {H H' : Hp} {a : Addr} {vs : List V} (k : TK H H') (h : TupAt K H a vs) : TupAt K H' a vs := by
  rcases h with h | h
  · exact .inl (k a vs h)
  · exact .inr h
mutual
theorem RD.keep {Z : Nm} {H H' : Hp} (k : TK H H') : ∀ {d : D} {v : V}, RD Z H d v → RD Z H' d v
  | _, _, .non => .non
  | _, _, .bl => .bl
  | _, _, .int => .int
  | _, _, .str => .str
  | _, _, .tup t r => .tup (t.keep k) (RDs.keep k r)
  | _, _, .ref => .ref
  | _, _, .fn => .fn
theorem RDs.keep {Z : Nm} {H H' : Hp} (k : TK H H') : ∀ {ds : List D} {vs : List V}, RDs Z H ds vs → RDs Z H' ds vs
  | _, _, .nil => .nil
  | _, _, .cons r t => .cons (RD.keep k r) (RDs.keep k t)
end
section
variable {Z : Nm} {H : Hp}
theorem RDs.length : ∀ {ds : List D} {vs : List V}, RDs Z H ds vs → ds.length = vs.length
  | _, _, .nil => rfl
  | _, _, .cons _ t => congrArg Nat.succ (RDs.length t)
theorem RDs.append : ∀ {ds es : List D} {vs us : List V}, RDs Z H ds vs → RDs Z H es us → RDs Z H (ds ++ es) (vs ++ us)
  | _, _, _, _, .nil, s => s
  | _, _, _, _, .cons r t, s => .cons r (RDs.append t s)
theorem RDs.get : ∀ {ds : List D} {vs : List V} {i : Nat} {d : D}, RDs Z H ds vs → ds[i]? = some d → ∃ v, vs[i]? = some v ∧ RD Z H d v
  | _, _, _, _, .nil, e => by simp at e
  | _, _, 0, _, .cons r _, e => by simp at e; subst e; exact ⟨_, rfl, r⟩
  | _, _, i + 1, d, .cons _ t, e => by
    obtain ⟨v, h1, h2⟩ := RDs.get (i := i) (d := d) t (by simpa using e)
    exact ⟨v, by simpa using h1, h2⟩
theorem RDs.getV : ∀ {ds : List D} {vs : List V} {i : Nat} {v : V}, RDs Z H ds vs → vs[i]? = some v → ∃ d, ds[i]? = some d ∧ RD Z H d v
  | _, _, _, _, .nil, e => by simp at e
  | _, _, 0, _, .cons r _, e => by simp at e; subst e; exact ⟨_, rfl, r⟩
  | _, _, i + 1, d, .cons _ t, e => by
    obtain ⟨v, h1, h2⟩ := RDs.getV (i := i) (v := d) t (by simpa using e)
    exact ⟨v, by simpa using h1, h2⟩
theorem RDs.take : ∀ {ds : List D} {vs : List V} (n : Nat), RDs Z H ds vs → RDs Z H (ds.take n) (vs.take n)
  | _, _, 0, _ => .nil
  | _, _, _ + 1, .nil => .nil
  | _, _, n + 1, .cons r t => .cons r (RDs.take n t)
theorem RDs.drop : ∀ {ds : List D} {vs : List V} (n : Nat), RDs Z H ds vs → RDs Z H (ds.drop n) (vs.drop n)
  | _, _, 0, r => r
  | _, _, _ + 1, .nil => .nil
  | _, _, n + 1, .cons _ t => RDs.drop n t
theorem RDs.set {d : D} {v : V} (r : RD Z H d v) : ∀ {ds : List D} {vs : List V} (i : Nat), RDs Z H ds vs → RDs Z H (ds.set i d) (vs.set i v)
  | _, _, _, .nil => .nil
  | _, _, 0, .cons _ t => .cons r t
  | _, _, i + 1, .cons q t => .cons q (RDs.set r i t)
theorem RDs.dropLast : ∀ {ds : List D} {vs : List V}, RDs Z H ds vs → RDs Z H ds.dropLast vs.dropLast
  | _, _, .nil => .nil
  | _, _, .cons _ .nil => .nil
  | _, _, .cons r (.cons q t) => .cons r (RDs.dropLast (.cons q t))
theorem RDs.eraseIdx : ∀ {ds : List D} {vs : List V} (i : Nat), RDs Z H ds vs → RDs Z H (ds.eraseIdx i) (vs.eraseIdx i)
  | _, _, _, .nil => .nil
  | _, _, 0, .cons r t => t
  | _, _, i + 1, .cons r t => .cons r (RDs.eraseIdx i t)
theorem RDs.reverse {ds : List D} {vs : List V} (h : RDs Z H ds vs) : RDs Z H ds.reverse vs.reverse := by
  induction ds generalizing vs with
  | nil => cases h; exact .nil
  | cons d ds ih =>
    cases h with
    | cons r t =>
      rw [List.reverse_cons, List.reverse_cons]
      exact (ih t).append (.cons r .nil)
theorem RDs.nil_iff {ds : List D} {vs : List V} (h : RDs Z H ds vs) : ds = [] ↔ vs = [] := by cases h <;> simp
theorem RDs.one {d : D} {vs : List V} (h : RDs Z H [d] vs) : ∃ v, vs = [v] ∧ RD Z H d v := by
  cases h with
  | cons r t => cases t; exact ⟨_, rfl, r⟩
theorem RDs.two {d e : D} {vs : List V} (h : RDs Z H [d, e] vs) : ∃ v u, vs = [v, u] ∧ RD Z H d v ∧ RD Z H e u := by
  cases h with
  | cons r t => cases t with | cons r2 t => cases t; exact ⟨_, _, rfl, r, r2⟩
theorem RDs.rep {ds : List D} {vs : List V} (h : RDs Z H ds vs) : ∀ k : Nat, RDs Z H (List.replicate k ds).flatten (List.replicate k vs).flatten
  | 0 => .nil
  | k + 1 => by simp only [List.replicate_succ, List.flatten_cons]; exact h.append (RDs.rep h k)
end
/-- keys -/
def kyS : Ky → Key
  | .inl i => .inl i
  | .inr l => .inr (st l)
theorem kyS_inj {a b : Ky} (h : kyS a = kyS b) : a = b := by
  cases a with
  | inl i => cases b with
    | inl j => exact congrArg Sum.inl (Sum.inl.inj h)
    | inr l => exact nomatch h
  | inr k => cases b with
    | inl j => exact nomatch h
    | inr l => exact congrArg Sum.inr (st_inj (Sum.inr.inj h))
/-- attributes, pairs of a dict -/
inductive RF (Z : Nm) (H : Hp) : List (Nat × D) → List (Str × V) → Prop
  | nil : RF Z H [] []
  | cons {i d v fs gs} : i < Z.nf → RD Z H d v → RF Z H fs gs → RF Z H ((i, d) :: fs) ((Z.fld i, v) :: gs)
inductive RK (Z : Nm) (H : Hp) : List (Ky × D) → List (Key × V) → Prop
  | nil : RK Z H [] []
  | cons {k d v ks gs} : RD Z H d v → RK Z H ks gs → RK Z H ((k, d) :: ks) ((kyS k, v) :: gs)
theorem RF.keep {Z : Nm} {H H' : Hp} (k : TK H H') : ∀ {fs : List (Nat × D)} {gs : List (Str × V)}, RF Z H fs gs → RF Z H' fs gs
  | _, _, .nil => .nil
  | _, _, .cons l r t => .cons l (r.keep k) (RF.keep k t)
theorem RK.keep {Z : Nm} {H H' : Hp} (k : TK H H') : ∀ {fs : List (Ky × D)} {gs : List (Key × V)}, RK Z H fs gs → RK Z H' fs gs
  | _, _, .nil => .nil
  | _, _, .cons r t => .cons (r.keep k) (RK.keep k t)
def CellAt (Z : Nm) (H : Hp) (a : Addr) : Cell → Prop
  | .lst ds => ∃ vs, H a = some (.lst vs) ∧ RDs Z H ds vs
  | .fls ds => ∃ o vs, H a = some (.frz o (.lst vs)) ∧ RDs Z H ds vs
  | .dct kvs => ∃ gs, H a = some (.dK gs) ∧ RK Z H kvs gs
  | .ins c fs => c < Z.nc ∧ ∃ dx gs, H a = some (.ins (Z.cla c) dx gs) ∧ RF Z H fs gs
def SR (Z : Nm) (S : Sto) (H : Hp) : Prop := ∀ a c, S a = some c → CellAt Z H a c
theorem CellAt.has {Z : Nm} {H : Hp} {a : Addr} {c : Cell} (h : CellAt Z H a c) : ∃ o, H a = some o := by
  cases c with
  | lst ds => obtain ⟨_, e, _⟩ := h; exact ⟨_, e⟩
  | fls ds => obtain ⟨_, _, e, _⟩ := h; exact ⟨_, e⟩
  | dct kvs => obtain ⟨_, e, _⟩ := h; exact ⟨_, e⟩
  | ins c fs => obtain ⟨_, _, _, e, _⟩ := h; exact ⟨_, e⟩
theorem SR.free {Z : Nm} {S : Sto} {H : Hp} (h : SR Z S H) {p : Addr} (n : H p = none) : S p = none := by
  cases e : S p with
  | none => rfl
  | some c => obtain ⟨o, q⟩ := CellAt.has (h p c e); rw [n] at q; cases q
theorem CellAt.keep {Z : Nm} {H H' : Hp} {a : Addr} {c : Cell} (h : CellAt Z H a c) (k : TK H H') (e : ∀ o, H a = some o → H' a = some o) : CellAt Z H' a c := by
  cases c with
  | lst ds => obtain ⟨vs, q, r⟩ := h; exact ⟨vs, e _ q, r.keep k⟩
  | fls ds => obtain ⟨o, vs, q, r⟩ := h; exact ⟨o, vs, e _ q, r.keep k⟩
  | dct kvs => obtain ⟨gs, q, r⟩ := h; exact ⟨gs, e _ q, r.keep k⟩
  | ins c fs => obtain ⟨n, dx, gs, q, r⟩ := h; exact ⟨n, dx, gs, e _ q, r.keep k⟩
/-- a new object -/
theorem TK.new {H : Hp} {p : Addr} {o : HO} (n : H p = none) : TK H (upd H p o) := fun a vs h => by rw [upd_ne (ne_of_none h n)]; exact h
theorem SR.same {Z : Nm} {S : Sto} {H H' : Hp} (h : SR Z S H) (e : ∀ a o, H a = some o → H' a = some o) : SR Z S H' := fun a c q =>
  CellAt.keep (h a c q) (fun b vs z => e b _ z) fun o z => e a o z
theorem new_same {H : Hp} {p : Addr} {o : HO} (n : H p = none) : ∀ a u, H a = some u → upd H p o a = some u := fun a u h => by rw [upd_ne (ne_of_none h n)]; exact h
theorem SR.new {Z : Nm} {S : Sto} {H : Hp} {p : Addr} {o : HO} (h : SR Z S H) (n : H p = none) : SR Z S (upd H p o) := h.same (new_same n)
/-- what is mutable -/
def Mu : HO → Prop
  | .lst _ => True
  | .dK _ => True
  | .ins _ _ _ => True
  | _ => False
theorem TK.mut {H : Hp} {p : Addr} {o o' : HO} (e : H p = some o) (m : Mu o) : TK H (upd H p o') := fun a vs h => by
  rw [upd_ne (fun z => by subst z; rw [h] at e; cases e; exact m)]; exact h
/-- a cell written over what was new or mutable -/
theorem SR.put {Z : Nm} {S : Sto} {H : Hp} {p : Addr} {o : HO} {c : Cell} (h : SR Z S H) (k : TK H (upd H p o)) (new : CellAt Z (upd H p o) p c) : SR Z (S.upd p c) (upd H p o) := fun a d q => by
  by_cases e : a = p
  · subst e; rw [Sto.upd_same] at q; cases q; exact new
  · rw [Sto.upd_ne e] at q
    exact CellAt.keep (h a d q) k fun u z => by rw [upd_ne e]; exact z
end Mini
end L2
/-! Mini, part B: the small language and what must hold so that a run of it ends as wanted -/
namespace L2
namespace Mini
open PySem PySem.Spec PyProof.Rows
inductive Bop where | add | sub | mul | fdiv | mod | pow
inductive Cop where | eq | ne | lt | le | gt | ge | is_ | isnot | in_ | notin
/-- built-in functions and classes called -/
inductive Bi where | len | int | max | min | sum | all | any | tuple | list | sortset | repr | str | abs | dict0 | sorted | dict
/-- built-in methods -/
inductive Bm where | append | pop | extend | count | index
/-- classes that isinstance asks for -/
inductive Ty where | int | bool | str | tuple | list | exc (c : Nat)
/-- targets: a name, a tuple of names -/
inductive Tg where | nm (i : Nat) | tp (is : List Nat)
mutual
inductive Ex where
  | var (i : Nat) | lit (d : D) | bin (op : Bop) (a b : Ex) | neg (a : Ex) | cmp (op : Cop) (a b : Ex) | chn (o1 o2 : Cop) (a b c : Ex)
  | and (a b : Ex) | or (a b : Ex) | not (a : Ex) | ite (c a b : Ex) | tup (es : Exs) | lst (es : Exs) | dct (ps : Exs) | ix (a i : Ex) | slc (a : Ex) (lo hi : Exo) | rev (a : Ex)
  | att (a : Ex) (f : Nat) | call (f : Nat) (es : Exs) | callv (i : Nat) (es : Exs) | bi (b : Bi) (es : Exs) | isi (a : Ex) (t : Ty) | isi2 (a : Ex) (t u : Ty) | mth (m : Nat) (o : Ex) (es : Exs) | bm (m : Bm) (o : Ex) (es : Exs)
  | new (c : Nat) (es : Exs) | newo (c : Nat) | lc (e : Ex) (t : Tg) (it : Itr) (c : Exo) | dc (k v : Ex) (t : Tg) (it : Itr) (c : Exo) | kin (neg : Bool) (a : Ex) (kvs : List (List Nat × D)) | kix (kvs : List (List Nat × D)) (a : Ex) | lzip (a b : Ex)
inductive Exs where | nil | cons (e : Ex) (es : Exs)
inductive Exo where | none | some (e : Ex)
/-- what a loop goes over -/
inductive Itr where | sq (e : Ex) | rng (b : Ex) | rng2 (a b : Ex) | enum (e : Ex) | zip (a b : Ex)
end
/-- an except suite -/
inductive Se where | lit (d : D) | exf (i f : Nat) | exf2 (i f g : Nat)
inductive Su where | ret (e : Se) | cnt | pass | set (i : Nat) (d : D)
mutual
inductive Stm where
  | set (i : Nat) (e : Ex) | unp (is : List Nat) (e : Ex) | unpl (is : List Nat) (e : Ex) | unpa (o : Ex) (f : Nat) (o2 : Ex) (f2 : Nat) (e : Ex) | setix (o i e : Ex) | setat (o : Ex) (f : Nat) (e : Ex) | aug (i : Nat) (op : Bop) (e : Ex) | augat (o : Ex) (f : Nat) (op : Bop) (e : Ex)
  | ife (c : Ex) (a b : Stms) | whl (c : Ex) (b : Stms) | for_ (t : Tg) (it : Itr) (b : Stms) | ret (e : Ex) | brk | cnt | pass | ex (e : Ex) | raise (c : Nat) (es : Exs) | try_ (b : Stms) (hs : List (Nat × Su))
inductive Stms where | nil | cons (s : Stm) (ss : Stms)
end
abbrev Env := List (Option D)
def Env.get (σ : Env) (i : Nat) : Option D := match σ[i]? with | some (some d) => some d | _ => none
/-- an exception: its class, its fields -/
structure Xn where
  c : Nat
  fs : List (Nat × D)
abbrev QD := D → Sto → Prop
abbrev QX := Xn → Sto → Prop
abbrev Spec := List D → Sto → QD → QX → Prop
/-- what the defs promise; fn: by number; ini: the __init__ of a class (one level lower); mt: which def a class has by a method's name; xcls: the fields of an exception's class; xsub: subclasses -/
structure Gam where
  fn : Nat → Spec
  ini : Nat → Spec
  mt : Nat → Nat → Option Nat
  xfl : Nat → List Nat
  xsub : Nat → Nat → Bool
  nfn : Nat
/-! ### values -/
def rd (S : Sto) (a : Addr) : Option (List D) := match S a with | some (.lst ds) => some ds | some (.fls ds) => some ds | _ => none
def tru (S : Sto) : D → Option Bool
  | .non => some false
  | .bl b => some b
  | .int i => some (i != 0)
  | .str _ => none
  | .tup ds => some (!ds.isEmpty)
  | .ref a => (rd S a).map fun ds => !ds.isEmpty
  | .fn _ => none
mutual
/-- the data as the library's equality has it -/
inductive PD (S : Sto) : D → PyData → Prop
  | non : PD S .non .none
  | bl {b} : PD S (.bl b) (.bool b)
  | int {i} : PD S (.int i) (.int i)
  | str {l : List Nat} : l.all (fun c => decide (c < 0x110000)) = true → PD S (.str l) (.str (st l))
  | tup {ds ps} : PDs S ds ps → PD S (.tup ds) (.tuple ps)
  | ref {a ds ps} : rd S a = some ds → PDs S ds ps → PD S (.ref a) (.list ps)
inductive PDs (S : Sto) : List D → List PyData → Prop
  | nil : PDs S [] []
  | cons {d p ds ps} : PD S d p → PDs S ds ps → PDs S (d :: ds) (p :: ps)
end
/-- room for an equality -/
def eqRoom (p q : PyData) : Prop := min p.depth q.depth ≤ 190
/-- the answer of x == y -/
inductive Eqv (S : Sto) : D → D → Bool → Prop
  | int {i j} : Eqv S (.int i) (.int j) (i == j)
  | str {a b} : Eqv S (.str a) (.str b) (a == b)
  | dat {x y p q} : PD S x p → PD S y q → eqRoom p q → Eqv S x y (PyData.eqv p q)
def eqW (x y : D) (neg : Bool) (S : Sto) (Q : QD) : Prop :=
  match x, y with
  | .int i, .int j => Q (.bl (neg ^^ (i == j))) S
  | .str a, .str b => Q (.bl (neg ^^ (a == b))) S
  | x, y => ∃ r, Eqv S x y r ∧ Q (.bl (neg ^^ r)) S
def seqOf (S : Sto) : D → Option (List D)
  | .tup ds => some ds
  | .ref a => rd S a
  | _ => none
/-- x in y -/
def dget (kvs : List (Ky × D)) (k : Ky) : Option D := (kvs.find? fun p => decide (p.1 = k)).map (·.2)
def inW (x y : D) (neg : Bool) (S : Sto) (Q : QD) : Prop :=
  match x, y with
  | .str [c], .str b => Q (.bl (neg ^^ b.contains c)) S
  | x, .ref a => match S a with
    | some (.dct kvs) => match x with
      | .int i => Q (.bl (neg ^^ (dget kvs (.inl i)).isSome)) S
      | .str l => Q (.bl (neg ^^ (dget kvs (.inr l)).isSome)) S
      | _ => False
    | some (.lst ds) => ∃ r, InL S x ds r ∧ Q (.bl (neg ^^ r)) S
    | some (.fls ds) => ∃ r, InL S x ds r ∧ Q (.bl (neg ^^ r)) S
    | _ => False
  | x, .tup ds => ∃ r, InL S x ds r ∧ Q (.bl (neg ^^ r)) S
  | _, _ => False
where InL (S : Sto) (x : D) (ds : List D) (r : Bool) : Prop := ∃ p ps, PD S x p ∧ PDs S ds ps ∧ p.depth ≤ 180 ∧ r = ps.any fun q => PyData.eqv q p
def cmpW (op : Cop) (x y : D) (S : Sto) (Q : QD) : Prop :=
  match op with
  | .eq => eqW x y false S Q
  | .ne => eqW x y true S Q
  | .lt => match x, y with | .int i, .int j => Q (.bl (decide (i < j))) S | _, _ => False
  | .le => match x, y with | .int i, .int j => Q (.bl (decide (i ≤ j))) S | _, _ => False
  | .gt => match x, y with | .int i, .int j => Q (.bl (decide (j < i))) S | _, _ => False
  | .ge => match x, y with | .int i, .int j => Q (.bl (decide (j ≤ i))) S | _, _ => False
  | .is_ => match x, y with | .non, .non => Q (.bl true) S | _, .non => Q (.bl false) S | _, _ => False
  | .isnot => match x, y with | .non, .non => Q (.bl false) S | _, .non => Q (.bl true) S | _, _ => False
  | .in_ => inW x y false S Q
  | .notin => inW x y true S Q
/-- a new list, a new dict .. -/
def newW (c : Cell) (S : Sto) (Q : QD) : Prop := ∀ p, S p = none → Q (.ref p) (S.upd p c)
def smallI (i : Int) : Prop := -(2 ^ 64) < i ∧ i < 2 ^ 64
def binW (op : Bop) (x y : D) (S : Sto) (Q : QD) : Prop :=
  match op, x, y with
  | .add, .int i, .int j => Q (.int (i + j)) S
  | .add, .str a, .str b => a.length + b.length ≤ sizeLine ∧ Q (.str (a ++ b)) S
  | .add, .tup a, .tup b => a.length + b.length ≤ sizeLine ∧ Q (.tup (a ++ b)) S
  | .add, .ref a, .ref b => ∃ xs ys, S a = some (.lst xs) ∧ S b = some (.lst ys) ∧ xs.length + ys.length ≤ sizeLine ∧ newW (.lst (xs ++ ys)) S Q
  | .sub, .int i, .int j => Q (.int (i - j)) S
  | .mul, .int i, .int j => (smallI i ∨ smallI j) ∧ Q (.int (i * j)) S
  | .mul, .ref a, .int k => ∃ xs, S a = some (.lst xs) ∧ -(2 ^ 63) ≤ k ∧ k < 2 ^ 63 ∧ xs.length * k.toNat ≤ sizeLine ∧ newW (.lst (List.replicate k.toNat xs).flatten) S Q
  | .mul, .tup xs, .int k => xs ≠ [] ∧ 2 ≤ k ∧ k ≤ 1000 ∧ xs.length ≤ 1000 ∧ Q (.tup (List.replicate k.toNat xs).flatten) S
  | .mul, .str [c], .int k => 0 ≤ k ∧ k ≤ 1000000 ∧ Q (.str (List.replicate k.toNat c)) S
  | .fdiv, .int i, .int j => j ≠ 0 ∧ j.natAbs < 1073741824 ∧ Q (.int (i.fdiv j)) S
  | .mod, .int i, .int j => j ≠ 0 ∧ Q (.int (i.fmod j)) S
  | .pow, .int i, .int j => 0 ≤ j ∧ j ≤ 1000000 ∧ i.natAbs < 2 ^ 64 ∧ Q (.int (i ^ j.toNat)) S
  | _, _, _ => False
/-- a op= b, b not a list -/
def augW (op : Bop) (x y : D) (S : Sto) (Q : QD) : Prop :=
  match op, x, y with
  | .add, .int i, .int j => Q (.int (i + j)) S
  | .add, .str a, .str b => a.length + b.length ≤ sizeLine ∧ Q (.str (a ++ b)) S
  | .sub, .int i, .int j => Q (.int (i - j)) S
  | .add, .tup a, .tup b => a.length + b.length ≤ sizeLine ∧ Q (.tup (a ++ b)) S
  | _, _, _ => False
def ixW (x y : D) (S : Sto) (Q : QD) : Prop :=
  match x, y with
  | .tup ds, .int i => ∃ d, atI ds i = some d ∧ Q d S
  | .str l, .int i => l.length ≤ sizeLine ∧ ∃ c, atI l i = some c ∧ Q (.str [c]) S
  | .ref a, y => match S a, y with
    | some (.lst ds), .int i => ∃ d, atI ds i = some d ∧ Q d S
    | some (.fls ds), .int i => ∃ d, atI ds i = some d ∧ Q d S
    | some (.dct kvs), .int i => ∃ d, dget kvs (.inl i) = some d ∧ Q d S
    | some (.dct kvs), .str l => ∃ d, dget kvs (.inr l) = some d ∧ Q d S
    | _, _ => False
  | _, _ => False
def cutD {α : Type} (xs : List α) (lo hi : Option Int) : List α := (xs.drop (HT.sIx xs.length 0 lo)).take (HT.sIx xs.length xs.length hi - HT.sIx xs.length 0 lo)
def slW (x : D) (lo hi : Option Int) (S : Sto) (Q : QD) : Prop :=
  match x with
  | .tup ds => Q (.tup (cutD ds lo hi)) S
  | .str l => l.length ≤ sizeLine ∧ Q (.str (cutD l lo hi)) S
  | .ref a => ∃ ds, rd S a = some ds ∧ newW (.lst (cutD ds lo hi)) S Q
  | _ => False
def revW (x : D) (S : Sto) (Q : QD) : Prop :=
  match x with
  | .tup ds => Q (.tup ds.reverse) S
  | .ref a => ∃ ds, rd S a = some ds ∧ newW (.lst ds.reverse) S Q
  | _ => False
/-- d[k] = v -/
def dput (kvs : List (Ky × D)) (k : Ky) (v : D) : List (Ky × D) := if (kvs.any fun p => decide (p.1 = k)) = true then kvs.map (fun p => if p.1 = k then (p.1, v) else p) else kvs ++ [(k, v)]
def setixW (o i v : D) (S : Sto) (Q : Sto → Prop) : Prop :=
  match o with
  | .ref a => match S a, i with
    | some (.lst ds), .int k => ∃ j, ixN ds.length k = some j ∧ Q (S.upd a (.lst (ds.set j v)))
    | some (.dct kvs), .int k => kvs.length < sizeLine ∧ Q (S.upd a (.dct (dput kvs (.inl k) v)))
    | some (.dct kvs), .str l => kvs.length < sizeLine ∧ Q (S.upd a (.dct (dput kvs (.inr l) v)))
    | _, _ => False
  | _ => False
def fget : List (Nat × D) → Nat → Option D
  | [], _ => none
  | (g, u) :: r, f => if f = g then some u else fget r f
def fput (f : Nat) (v : D) : List (Nat × D) → List (Nat × D)
  | [] => [(f, v)]
  | (g, u) :: r => if g = f then (f, v) :: r else (g, u) :: fput f v r
def dmerge (kvs more : List (Ky × D)) : List (Ky × D) := more.foldl (fun acc kv => dput acc kv.1 kv.2) kvs
def kyOf : D → Option Ky
  | .int i => some (.inl i)
  | .str l => some (.inr l)
  | _ => none
/-- o.f = v -/
def putatW (x : D) (f : Nat) (v : D) (S : Sto) (Q : Sto → Prop) : Prop :=
  match x with
  | .ref p => match S p with
    | some (.ins c fs) => fs.length < 1000 ∧ Q (S.upd p (.ins c (fput f v fs)))
    | _ => False
  | _ => False
def isiW (x : D) (t : Ty) (S : Sto) : Option Bool :=
  match t, x with
  | .int, .int _ => some true
  | .int, .bl _ => some true
  | .bool, .bl _ => some true
  | .str, .str _ => some true
  | .tuple, .tup _ => some true
  | .list, .ref a => match S a with | some (.lst _) => some true | some (.fls _) => some true | some (.dct _) => some false | _ => none
  | .exc _, _ => none
  | _, .ref a => match S a with | some (.lst _) => some false | some (.fls _) => some false | some (.dct _) => some false | _ => none
  | _, .fn _ => none
  | _, _ => some false
def intsOf : List D → Option (List Int)
  | [] => some []
  | .int i :: r => (intsOf r).map (i :: ·)
  | _ => none
def blsOf : List D → Option (List Bool)
  | [] => some []
  | .bl i :: r => (blsOf r).map (i :: ·)
  | _ => none
/-- a whole number's text -/
def istr (i : Int) : List Nat := ((toString i : String) : Str).cps.toList
def biW (b : Bi) (xs : List D) (S : Sto) (Q : QD) : Prop :=
  match b, xs with
  | .len, [.str l] => l.length ≤ sizeLine ∧ Q (.int l.length) S
  | .len, [.tup ds] => Q (.int ds.length) S
  | .len, [.ref a] => match S a with
    | some (.lst ds) => Q (.int ds.length) S
    | some (.fls ds) => Q (.int ds.length) S
    | some (.dct kvs) => Q (.int kvs.length) S
    | _ => False
  | .int, [.int i] => Q (.int i) S
  | .int, [.bl k] => Q (.int (if k then 1 else 0)) S
  | .max, [.int i, .int j] => Q (.int (if j > i then j else i)) S
  | .min, [.int i, .int j] => Q (.int (if j < i then j else i)) S
  | .max, [.ref a] => ∃ ds ns, rd S a = some ds ∧ intsOf ds = some ns ∧ 0 < ns.length ∧ ∀ m, m ∈ ns → (∀ y, y ∈ ns → y ≤ m) → Q (.int m) S
  | .min, [.ref a] => ∃ ds ns, rd S a = some ds ∧ intsOf ds = some ns ∧ 0 < ns.length ∧ ∀ m, m ∈ ns → (∀ y, y ∈ ns → m ≤ y) → Q (.int m) S
  | .sum, [.ref a] => ∃ ds ns, rd S a = some ds ∧ intsOf ds = some ns ∧ Q (.int ns.sum) S
  | .all, [.ref a] => ∃ ds bs, rd S a = some ds ∧ blsOf ds = some bs ∧ Q (.bl (bs.all id)) S
  | .any, [.ref a] => ∃ ds bs, rd S a = some ds ∧ blsOf ds = some bs ∧ Q (.bl (bs.any id)) S
  | .tuple, [.ref a] => ∃ ds, rd S a = some ds ∧ Q (.tup ds) S
  | .tuple, [.tup ds] => Q (.tup ds) S
  | .list, [.ref a] => ∃ ds, rd S a = some ds ∧ newW (.lst ds) S Q
  | .list, [.tup ds] => newW (.lst ds) S Q
  | .abs, [.int i] => Q (.int (if i < 0 then -i else i)) S
  | .str, [.int i] => i.natAbs.log2 < 1920 ∧ Q (.str (istr i)) S
  | .str, [.str l] => Q (.str l) S
  | .repr, [.int i] => i.natAbs.log2 < 1920 ∧ Q (.str (istr i)) S
  | .repr, [.bl b] => Q (.str (if b then [84, 114, 117, 101] else [70, 97, 108, 115, 101])) S
  | .sorted, [.ref a] => match S a with
    | some (.dct kvs) => (∃ ns : List Int, kvs.map (·.1) = ns.map Sum.inl ∧ ns.length < 64 ∧ ∀ ys : List Int, ys.Perm ns → ys.Pairwise (· ≤ ·) → newW (.lst (ys.map .int)) S Q) ∨ (∃ ls : List (List Nat), kvs.map (·.1) = ls.map Sum.inr ∧ ls.length < 64 ∧ ∀ ys : List (List Nat), ys.Perm ls → sortedS (ys.map st) = true → newW (.lst (ys.map .str)) S Q)
    | some (.lst ds) => (∃ ns, intsOf ds = some ns ∧ ∀ ys : List Int, ys.Perm ns → ys.Pairwise (· ≤ ·) → newW (.lst (ys.map .int)) S Q) ∨ (∃ ls : List (List Nat), ds = ls.map .str ∧ ls.length < 64 ∧ ∀ ys : List (List Nat), ys.Perm ls → sortedS (ys.map st) = true → newW (.lst (ys.map .str)) S Q)
    | _ => False
  | .dict, [.ref a] => match S a with
    | some (.dct kvs) => newW (.dct kvs) S Q
    | _ => False
  | _, _ => False
/-- the receiver's class, ahead of the arguments -/
def bmTy (m : Bm) (o : D) (S : Sto) : Prop :=
  match m, o with
  | .count, .str _ => True
  | .append, .ref a => ∃ ds, S a = some (.lst ds)
  | .pop, .ref a => ∃ ds, S a = some (.lst ds)
  | .extend, .ref a => ∃ ds, S a = some (.lst ds)
  | .index, .ref a => ∃ ds, S a = some (.lst ds)
  | _, _ => False
def bmW (m : Bm) (o : D) (xs : List D) (S : Sto) (Q : QD) : Prop :=
  match o with
  | .ref a => match S a with
    | some (.lst ds) => match m, xs with
      | .append, [d] => ds.length < sizeLine ∧ Q .non (S.upd a (.lst (ds ++ [d])))
      | .pop, [] => ∃ d, ds[ds.length - 1]? = some d ∧ Q d (S.upd a (.lst ds.dropLast))
      | .pop, [.int i] => (-(2 ^ 63) ≤ i ∧ i < 2 ^ 63) ∧ ∃ j d, ixN ds.length i = some j ∧ ds[j]? = some d ∧ Q d (S.upd a (.lst (ds.eraseIdx j)))
      | .extend, [.ref b] => ∃ es, S b = some (.lst es) ∧ ds.length + es.length ≤ sizeLine ∧ Q .non (S.upd a (.lst (ds ++ es)))
      | .extend, [.tup es] => ds.length + es.length ≤ sizeLine ∧ Q .non (S.upd a (.lst (ds ++ es)))
      | .index, [y] => ∃ p ps j z, PD S y p ∧ PDs S ds ps ∧ p.depth ≤ 60 ∧ PyData.depthAll ps ≤ 60 ∧ ps[j]? = some z ∧ PyData.eqv z p = true ∧ (∀ m z', m < j → ps[m]? = some z' → PyData.eqv z' p = false) ∧ Q (.int (j : Nat)) S
      | _, _ => False
    | _ => False
  | _ => False
/-- the slots a target fills -/
def tgW (t : Tg) (d : D) (σ : Env) : Option Env :=
  match t with
  | .nm i => some (σ.set i (some d))
  | .tp is => match d with
    | .tup ds => if ds.length = is.length then some ((is.zip ds).foldl (fun s p => s.set p.1 (some p.2)) σ) else none
    | _ => none
/-- one item after the other -/
def goW (live : Sto → Prop) (turn : D → (Sto → Prop) → (Sto → Prop)) : List D → Sto → (Sto → Prop) → Prop
  | [], S, Q => live S ∧ Q S
  | d :: ds, S, Q => live S ∧ turn d (fun S' => goW live turn ds S' Q) S
/-- a list as it stood -/
def liveL (a : Addr) (ds : List D) : Sto → Prop := fun S => rd S a = some ds
def sqW (x : D) (S : Sto) (R : List D → (Sto → Prop) → Prop) : Prop :=
  match x with
  | .tup ds => R ds fun _ => True
  | .str l => l.length ≤ sizeLine ∧ R (l.map fun c => .str [c]) fun _ => True
  | .ref a => match S a with
    | some (.lst ds) => R ds (liveL a ds)
    | some (.fls ds) => R ds (liveL a ds)
    | _ => False
  | _ => False
def lsW (x : D) (S : Sto) (R : List D → (Sto → Prop) → Prop) : Prop :=
  match x with
  | .ref a => ∃ ds, rd S a = some ds ∧ R ds (liveL a ds)
  | _ => False
def rngD (lo : Int) (n : Nat) : List D := (List.range n).map fun (k : Nat) => D.int (lo + k)
def enumD (ds : List D) : List D := (List.range ds.length).zip ds |>.map fun (p : Nat × D) => D.tup [.int p.1, p.2]
def zipD (xs ys : List D) : List D := (xs.zip ys).map fun p => D.tup [p.1, p.2]
/-- list(zip(a, b)) of a list and a tuple -/
def lzW (x y : D) (S : Sto) (Q : QD) : Prop :=
  match x, y with
  | .ref a, .tup es => ∃ ds, rd S a = some ds ∧ (zipD ds es).length < sizeLine ∧ newW (.lst (zipD ds es)) S Q
  | _, _ => False
mutual
def wpE (G : Gam) : Ex → Env → Sto → QD → QX → Prop
  | .var i, σ, S, Q, _ => match σ.get i with | some d => Q d S | none => False
  | .lit d, _, S, Q, _ => Q d S
  | .bin op a b, σ, S, Q, E => wpE G a σ S (fun x S1 => wpE G b σ S1 (fun y S2 => binW op x y S2 Q) E) E
  | .neg a, σ, S, Q, E => wpE G a σ S (fun x S1 => match x with | .int i => Q (.int (-i)) S1 | _ => False) E
  | .cmp op a b, σ, S, Q, E => wpE G a σ S (fun x S1 => wpE G b σ S1 (fun y S2 => cmpW op x y S2 Q) E) E
  | .chn o1 o2 a b c, σ, S, Q, E => wpE G a σ S (fun x S1 => wpE G b σ S1 (fun y S2 => cmpW o1 x y S2 (fun r S3 => match r with | .bl true => wpE G c σ S3 (fun z S4 => cmpW o2 y z S4 Q) E | .bl false => Q (.bl false) S3 | _ => False)) E) E
  | .and a b, σ, S, Q, E => wpE G a σ S (fun x S1 => match tru S1 x with | some true => wpE G b σ S1 Q E | some false => Q x S1 | none => False) E
  | .or a b, σ, S, Q, E => wpE G a σ S (fun x S1 => match tru S1 x with | some true => Q x S1 | some false => wpE G b σ S1 Q E | none => False) E
  | .not a, σ, S, Q, E => wpE G a σ S (fun x S1 => match tru S1 x with | some r => Q (.bl (!r)) S1 | none => False) E
  | .ite c a b, σ, S, Q, E => wpE G c σ S (fun x S1 => match tru S1 x with | some true => wpE G a σ S1 Q E | some false => wpE G b σ S1 Q E | none => False) E
  | .tup es, σ, S, Q, E => wpEs G es σ S (fun ds S1 => ds.length ≤ sizeLine ∧ Q (.tup ds) S1) E
  | .lst es, σ, S, Q, E => wpEs G es σ S (fun ds S1 => ds.length ≤ sizeLine ∧ newW (.lst ds) S1 Q) E
  | .dct ps, σ, S, Q, E => ∀ p, S p = none → wpPs G ps σ (S.upd p (.dct [])) (fun kvs S1 => S1 p = some (.dct []) ∧ kvs.length ≤ 15 ∧ Q (.ref p) (S1.upd p (.dct (dmerge [] kvs)))) E
  | .ix a i, σ, S, Q, E => wpE G a σ S (fun x S1 => wpE G i σ S1 (fun y S2 => ixW x y S2 Q) E) E
  | .slc a lo hi, σ, S, Q, E => wpE G a σ S (fun x S1 => wpO G lo σ S1 (fun l S2 => wpO G hi σ S2 (fun h S3 => slW x l h S3 Q) E) E) E
  | .rev a, σ, S, Q, E => wpE G a σ S (fun x S1 => revW x S1 Q) E
  | .att a f, σ, S, Q, E => wpE G a σ S (fun x S1 => match x with | .ref p => (match S1 p with | some (.ins _ fs) => (match fget fs f with | some d => Q d S1 | none => False) | _ => False) | _ => False) E
  | .call f es, σ, S, Q, E => wpEs G es σ S (fun ds S1 => G.fn f ds S1 Q E) E
  | .callv i es, σ, S, Q, E => match σ.get i with | some (.fn f) => f < G.nfn ∧ wpEs G es σ S (fun ds S1 => G.fn f ds S1 Q E) E | _ => False
  | .bi b es, σ, S, Q, E => wpEs G es σ S (fun ds S1 => biW b ds S1 Q) E
  | .isi a t, σ, S, Q, E => wpE G a σ S (fun x S1 => match isiW x t S1 with | some r => Q (.bl r) S1 | none => False) E
  | .isi2 a t u, σ, S, Q, E => wpE G a σ S (fun x S1 => match isiW x t S1, isiW x u S1 with | some r, some q => Q (.bl (r || q)) S1 | _, _ => False) E
  | .mth m o es, σ, S, Q, E => wpE G o σ S (fun x S1 => match x with | .ref p => (match S1 p with | some (.ins c fs) => (match G.mt c m with | some f => wpEs G es σ S1 (fun ds S2 => G.fn f (x :: ds) S2 Q E) E | none => False) | _ => False) | _ => False) E
  | .bm m o es, σ, S, Q, E => wpE G o σ S (fun x S1 => bmTy m x S1 ∧ wpEs G es σ S1 (fun ds S2 => bmW m x ds S2 Q) E) E
  | .new c es, σ, S, Q, E => wpEs G es σ S (fun ds S1 => ∀ p, S1 p = none → G.ini c (.ref p :: ds) (S1.upd p (.ins c [])) (fun r S2 => r = .non ∧ Q (.ref p) S2) E) E
  | .newo c, _, S, Q, _ => ∀ p, S p = none → Q (.ref p) (S.upd p (.ins c []))
  | .lc e t it c, σ, S, Q, E => wpI G it σ S (fun ds live S1 => ∀ p, S1 p = none → goW live (fun d K S2 => match tgW t d σ with | some σ' => wpC G c σ' S2 (fun ok S3 => if ok then wpE G e σ' S3 (fun y S4 => ∃ acc, S4 p = some (.lst acc) ∧ acc.length < sizeLine ∧ K (S4.upd p (.lst (acc ++ [y])))) (fun _ _ => False) else K S3) | none => False) ds (S1.upd p (.lst [])) (fun S5 => Q (.ref p) S5)) E
  | .dc ke ve t it c, σ, S, Q, E => wpI G it σ S (fun ds live S1 => ∀ p, S1 p = none → goW live (fun d K S2 => match tgW t d σ with | some σ' => wpC G c σ' S2 (fun ok S3 => if ok then wpE G ke σ' S3 (fun y S4 => wpE G ve σ' S4 (fun z S5 => ∃ kvs ky, kyOf y = some ky ∧ S5 p = some (.dct kvs) ∧ kvs.length < sizeLine ∧ K (S5.upd p (.dct (dput kvs ky z)))) (fun _ _ => False)) (fun _ _ => False) else K S3) | none => False) ds (S1.upd p (.dct [])) (fun S5 => Q (.ref p) S5)) E
  | .kin neg a kvs, σ, S, Q, E => wpE G a σ S (fun x S1 => match x with | .str l => Q (.bl (neg ^^ (kvs.lookup l).isSome)) S1 | _ => False) E
  | .lzip a b, σ, S, Q, E => wpE G a σ S (fun x S1 => wpE G b σ S1 (fun y S2 => lzW x y S2 Q) E) E
  | .kix kvs a, σ, S, Q, E => wpE G a σ S (fun x S1 => match x with | .str l => (match kvs.lookup l with | some d => Q d S1 | none => False) | _ => False) E
def wpEs (G : Gam) : Exs → Env → Sto → (List D → Sto → Prop) → QX → Prop
  | .nil, _, S, Q, _ => Q [] S
  | .cons e es, σ, S, Q, E => wpE G e σ S (fun x S1 => wpEs G es σ S1 (fun xs S2 => Q (x :: xs) S2) E) E
/-- the pairs of a display, from the left: key, value, key, value .. -/
def wpPs (G : Gam) : Exs → Env → Sto → (List (Ky × D) → Sto → Prop) → QX → Prop
  | .nil, _, S, Q, _ => Q [] S
  | .cons k (.cons v r), σ, S, Q, E => wpE G k σ S (fun x S1 => wpE G v σ S1 (fun y S2 => wpPs G r σ S2 (fun kvs S3 => ∃ ky, kyOf x = some ky ∧ Q ((ky, y) :: kvs) S3) E) E) E
  | .cons _ .nil, _, _, _, _ => False
def wpO (G : Gam) : Exo → Env → Sto → (Option Int → Sto → Prop) → QX → Prop
  | .none, _, S, Q, _ => Q none S
  | .some e, σ, S, Q, E => wpE G e σ S (fun x S1 => match x with | .int i => Q (some i) S1 | _ => False) E
/-- a comprehension's test; what it raises is not let out -/
def wpC (G : Gam) : Exo → Env → Sto → (Bool → Sto → Prop) → Prop
  | .none, _, S, Q => Q true S
  | .some e, σ, S, Q => wpE G e σ S (fun x S1 => match tru S1 x with | some r => Q r S1 | none => False) (fun _ _ => False)
def wpI (G : Gam) : Itr → Env → Sto → (List D → (Sto → Prop) → Sto → Prop) → QX → Prop
  | .sq e, σ, S, R, E => wpE G e σ S (fun x S1 => sqW x S1 (fun ds l => R ds l S1)) E
  | .rng b, σ, S, R, E => wpE G b σ S (fun x S1 => match x with | .int j => -(2 ^ 62) ≤ j ∧ j < 2 ^ 62 ∧ R (rngD 0 j.toNat) (fun _ => True) S1 | _ => False) E
  | .rng2 a b, σ, S, R, E => wpE G a σ S (fun x S1 => wpE G b σ S1 (fun y S2 => match x, y with | .int i, .int j => -(2 ^ 62) ≤ i ∧ i < 2 ^ 62 ∧ -(2 ^ 62) ≤ j ∧ j < 2 ^ 62 ∧ R (rngD i (j - i).toNat) (fun _ => True) S2 | _, _ => False) E) E
  | .enum e, σ, S, R, E => wpE G e σ S (fun x S1 => lsW x S1 (fun ds l => R (enumD ds) l S1)) E
  | .zip a b, σ, S, R, E => wpE G a σ S (fun x S1 => wpE G b σ S1 (fun y S2 => lsW x S2 (fun ds l => lsW y S2 (fun es l2 => R (zipD ds es) (fun S' => l S' ∧ l2 S') S2))) E) E
end
def wpT (G : Gam) (e : Ex) (σ : Env) (S : Sto) (Q : Bool → Sto → Prop) (E : QX) : Prop := wpE G e σ S (fun x S1 => match tru S1 x with | some r => Q r S1 | none => False) E
/-- what is wanted behind a statement -/
structure En where
  nx : Env → Sto → Prop
  rt : QD
  bk : Env → Sto → Prop := fun _ _ => False
  ct : Env → Sto → Prop := fun _ _ => False
abbrev EX := Xn → Env → Sto → Prop
def seW (e : Se) (x : Xn) (σ : Env) (Q : D → Prop) : Prop :=
  match e with
  | .lit d => Q d
  | .exf i f => i < σ.length ∧ ∃ d, fget x.fs f = some d ∧ Q d
  | .exf2 i f g => i < σ.length ∧ ∃ d d2, fget x.fs f = some d ∧ fget x.fs g = some d2 ∧ Q (.tup [d, d2])
def suW (s : Su) (x : Xn) (K : En) (σ : Env) (S : Sto) : Prop :=
  match s with
  | .ret e => seW e x σ fun d => K.rt d S
  | .cnt => K.ct σ S
  | .pass => K.nx σ S
  | .set i d => K.nx (σ.set i (some d)) S
def tryW (G : Gam) : List (Nat × Su) → Xn → En → EX → Env → Sto → Prop
  | [], x, _, X, σ, S => X x σ S
  | (c, su) :: r, x, K, X, σ, S => if G.xsub x.c c = true then suW su x K σ S else tryW G r x K X σ S
/-- a while: by an invariant over a measure -/
def whlW (c : Env → Sto → (Bool → Sto → Prop) → Prop) (b : En → Env → Sto → Prop) (K : En) (σ : Env) (S : Sto) : Prop :=
  ∃ W : Nat → Env → Sto → Prop, (∃ m, W m σ S) ∧ ∀ m σ S, W m σ S →
    c σ S fun r S1 => if r = true then b { K with nx := fun σ' S' => ∃ m', m' < m ∧ W m' σ' S', ct := fun σ' S' => ∃ m', m' < m ∧ W m' σ' S', bk := K.nx } σ S1 else K.nx σ S1
def forW (live : Sto → Prop) (t : Tg) (b : En → Env → Sto → Prop) (K : En) : List D → Env → Sto → Prop
  | [], σ, S => live S ∧ K.nx σ S
  | d :: ds, σ, S => live S ∧ match tgW t d σ with
    | some σ' => b { K with nx := fun σ2 S2 => forW live t b K ds σ2 S2, ct := fun σ2 S2 => forW live t b K ds σ2 S2, bk := K.nx } σ' S
    | none => False
mutual
def wpS (G : Gam) : Stm → En → EX → Env → Sto → Prop
  | .set i e, K, X, σ, S => wpE G e σ S (fun d S1 => K.nx (σ.set i (some d)) S1) (fun x S1 => X x σ S1)
  | .unp is e, K, X, σ, S => wpE G e σ S (fun d S1 => match tgW (.tp is) d σ with | some σ' => K.nx σ' S1 | none => False) (fun x S1 => X x σ S1)
  | .unpl is e, K, X, σ, S => wpE G e σ S (fun d S1 => match d with | .ref a => (match rd S1 a with | some ds => (match tgW (.tp is) (.tup ds) σ with | some σ' => K.nx σ' S1 | none => False) | none => False) | _ => False) (fun x S1 => X x σ S1)
  | .unpa o f o2 f2 e, K, X, σ, S => wpE G e σ S (fun d S1 => match d with | .tup [a, b] => wpE G o σ S1 (fun x S2 => putatW x f a S2 (fun S3 => wpE G o2 σ S3 (fun y S4 => putatW y f2 b S4 (fun S5 => K.nx σ S5)) (fun x S1 => X x σ S1))) (fun x S1 => X x σ S1) | _ => False) (fun x S1 => X x σ S1)
  | .setix o i e, K, X, σ, S => wpE G e σ S (fun v S1 => wpE G o σ S1 (fun x S2 => wpE G i σ S2 (fun y S3 => setixW x y v S3 (fun S4 => K.nx σ S4)) (fun x S1 => X x σ S1)) (fun x S1 => X x σ S1)) (fun x S1 => X x σ S1)
  | .setat o f e, K, X, σ, S => wpE G e σ S (fun v S1 => wpE G o σ S1 (fun x S2 => match x with | .ref p => (match S2 p with | some (.ins c fs) => fs.length < 1000 ∧ K.nx σ (S2.upd p (.ins c (fput f v fs))) | _ => False) | _ => False) (fun x S1 => X x σ S1)) (fun x S1 => X x σ S1)
  | .aug i op e, K, X, σ, S => match σ.get i with | some x => wpE G e σ S (fun y S1 => augW op x y S1 (fun z S2 => K.nx (σ.set i (some z)) S2)) (fun x S1 => X x σ S1) | none => False
  | .augat o f op e, K, X, σ, S => wpE G o σ S (fun x S1 => match x with | .ref p => (match S1 p with | some (.ins c fs) => (match fget fs f with | some d => wpE G e σ S1 (fun y S2 => augW op d y S2 (fun z S3 => (match S3 p with | some (.ins c' fs') => c' = c ∧ fs'.length < 1000 ∧ K.nx σ (S3.upd p (.ins c' (fput f z fs'))) | _ => False))) (fun x S1 => X x σ S1) | none => False) | _ => False) | _ => False) (fun x S1 => X x σ S1)
  | .ife c a b, K, X, σ, S => wpT G c σ S (fun r S1 => if r = true then wpSs G a K X σ S1 else wpSs G b K X σ S1) (fun x S1 => X x σ S1)
  | .whl c b, K, X, σ, S => whlW (fun σ S Q => wpT G c σ S Q (fun x S1 => X x σ S1)) (fun K σ S => wpSs G b K X σ S) K σ S
  | .for_ t it b, K, X, σ, S => wpI G it σ S (fun ds live S1 => forW live t (fun K σ S => wpSs G b K X σ S) K ds σ S1) (fun x S1 => X x σ S1)
  | .ret e, K, X, σ, S => wpE G e σ S K.rt (fun x S1 => X x σ S1)
  | .brk, K, _, σ, S => K.bk σ S
  | .cnt, K, _, σ, S => K.ct σ S
  | .pass, K, _, σ, S => K.nx σ S
  | .ex e, K, X, σ, S => wpE G e σ S (fun _ S1 => K.nx σ S1) (fun x S1 => X x σ S1)
  | .raise c es, K, X, σ, S => wpEs G es σ S (fun ds S1 => ds.length = (G.xfl c).length ∧ X ⟨c, ((G.xfl c).zip ds).reverse⟩ σ S1) (fun x S1 => X x σ S1)
  | .try_ b hs, K, X, σ, S => wpSs G b K (fun x σ' S' => tryW G hs x K X σ' S') σ S
def wpSs (G : Gam) : Stms → En → EX → Env → Sto → Prop
  | .nil, K, _, σ, S => K.nx σ S
  | .cons s ss, K, X, σ, S => wpS G s { K with nx := fun σ' S' => wpSs G ss K X σ' S' } X σ S
end
end Mini
end L2
/-! Mini, part C: operations on values are the library's -/
namespace L2
namespace Mini
open PySem PySem.Spec PyProof.Rows
/-- slots -/
def ER (Z : Nm) (H : Hp) (σ : Env) (τ : St) : Prop := τ.length = σ.length ∧ ∀ i d, σ.get i = some d → ∃ v, τ[i]? = some (some v) ∧ RD Z H d v
theorem ER.keep {Z : Nm} {H H' : Hp} {σ : Env} {τ : St} (e : ER Z H σ τ) (k : TK H H') : ER Z H' σ τ := ⟨e.1, fun i d h => by
  obtain ⟨v, h1, h2⟩ := e.2 i d h
  exact ⟨v, h1, h2.keep k⟩⟩
theorem Env.get_lt {σ : Env} {i : Nat} {d : D} (h : σ.get i = some d) : i < σ.length := by
  unfold Env.get at h
  split at h
  · rename_i d' e
    exact (List.getElem?_eq_some_iff.mp e).1
  · cases h
theorem Env.get_set_same {σ : Env} {i : Nat} {d : D} (h : i < σ.length) : Env.get (σ.set i (some d)) i = some d := by
  unfold Env.get; rw [List.getElem?_set_self h]
theorem Env.get_set_ne {σ : Env} {i j : Nat} {d : Option D} (h : i ≠ j) : Env.get (σ.set i d) j = σ.get j := by
  unfold Env.get; rw [List.getElem?_set_ne h]
theorem ER.set {Z : Nm} {H : Hp} {σ : Env} {τ : St} (e : ER Z H σ τ) (i : Nat) {d : D} {v : V} (r : RD Z H d v) : ER Z H (σ.set i (some d)) (τ.set i (some v)) := by
  refine ⟨by rw [List.length_set, List.length_set]; exact e.1, fun j d' h => ?_⟩
  have hj := Env.get_lt h
  rw [List.length_set] at hj
  by_cases hij : i = j
  · subst hij
    rw [Env.get_set_same hj] at h
    cases h
    exact ⟨v, List.getElem?_set_self (by rw [e.1]; exact hj), r⟩
  · rw [Env.get_set_ne hij] at h
    obtain ⟨u, h1, h2⟩ := e.2 j d' h
    exact ⟨u, by rw [List.getElem?_set_ne hij]; exact h1, h2⟩
/-- an exception as it lies -/
def XR (Z : Nm) (H : Hp) (x : Xn) (cls : Value) (dd : Option Addr) : Prop :=
  (Z.nc ≤ x.c ∧ x.c < Z.nx) ∧ cls = .ref (Z.cla x.c) ∧ match dd with | none => x.fs = [] | some a => ∃ gs, H a = some (.xd gs) ∧ RF Z H x.fs gs
/-- the end of an expression -/
def Kq (Z : Nm) (H : Hp) (Qa : QD) (Q : VK) : Prop := ∀ d v S' H', TK H H' → SR Z S' H' → RD Z H' d v → Qa d S' → Q v H'
theorem Kq.keep {Z : Nm} {H H' : Hp} {Qa : QD} {Q : VK} (q : Kq Z H Qa Q) (k : TK H H') : Kq Z H' Qa Q := fun d v S2 H2 k2 => q d v S2 H2 (k.trans k2)
def Kx (Z : Nm) (W : WX) (τ : St) (H : Hp) (E : QX) : Prop := ∀ x cls dd S' H', TK H H' → SR Z S' H' → XR Z H' x cls dd → E x S' → W cls dd τ H'
theorem Kx.keep {Z : Nm} {W : WX} {τ : St} {H H' : Hp} {E : QX} (q : Kx Z W τ H E) (k : TK H H') : Kx Z W τ H' E := fun x c d S2 H2 k2 => q x c d S2 H2 (k.trans k2)
/-- the readings from a word about slots and store -/
abbrev WE0 := Env → Sto → QD → QX → Prop
def TEx (Z : Nm) (W : WX) (w : WE0) : TE := fun τ H Q => ∃ σ S Qa E, ER Z H σ τ ∧ SR Z S H ∧ w σ S Qa E ∧ Kq Z H Qa Q ∧ Kx Z W τ H E
def SE (X : Cx) (Z : Nm) (W : WX) (e : Expr) (w : WE0) : Prop := PE X e (TEx Z W w)
theorem PE.imp {X : Cx} {e : Expr} {t t' : TE} (h : PE X e t) (i : ∀ τ H Q, t' τ H Q → t τ H Q) : PE X e t' := ⟨fun pins s σ H Q I w => h.run pins s σ H Q I (i _ _ _ w)⟩
/-! ### any rule for an operation -/
def rAny (X : Cx) (f : Value → Value → Sem Value) : R2 := fun x y H Q => ∃ r, OpR X f r ∧ r x y H Q
theorem rAny.ok (X : Cx) (f : Value → Value → Sem Value) : OpR X f (rAny X f) := fun pins s σ H x y v u Q I rx ry ⟨r, h, q⟩ => h pins s σ H x y v u Q I rx ry q
def uAny (X : Cx) (f : Value → Sem Value) : V → Hp → VK → Prop := fun x H Q => ∃ r, UnR X f r ∧ r x H Q
theorem uAny.ok (X : Cx) (f : Value → Sem Value) : UnR X f (uAny X f) := fun pins s σ H x v Q I rx ⟨r, h, q⟩ => h pins s σ H x v Q I rx q
def cAny (X : Cx) (f : Value) : List V → Hp → VK → Prop := fun xs H Q => ∃ r, CallR X f r ∧ r xs H Q
theorem cAny.ok (X : Cx) (f : Value) : CallR X f (cAny X f) := fun pins s σ H xs us Q I rx ⟨r, h, q⟩ => h pins s σ H xs us Q I rx q
def ixAny (X : Cx) : R2 := fun x y H Q => ∃ r, IxR X r ∧ r x y H Q
theorem ixAny.ok (X : Cx) : IxR X (ixAny X) := fun a b pins s σ H x y v u Q I rx ry ⟨r, h, q⟩ hs => h a b pins s σ H x y v u Q I rx ry q hs
def slAny (X : Cx) : V → Option Int → Option Int → Hp → VK → Prop := fun x lo hi H Q => ∃ r, SlR X r ∧ r x lo hi H Q
theorem slAny.ok (X : Cx) : SlR X (slAny X) := fun pins s σ H x v vl vu lo hi sl Q I rx hs pl pu ⟨r, h, q⟩ => h pins s σ H x v vl vu lo hi sl Q I rx hs pl pu q
section
variable {X : Cx} {Z : Nm} {S : Sto} {H : Hp} {Qa : QD} {Q : VK}
theorem Kq.pure {d : D} {v : V} (q : Kq Z H Qa Q) (sr : SR Z S H) (r : RD Z H d v) (h : Qa d S) : Q v H := q d v S H (TK.refl H) sr r h
/-- a new list -/
theorem Kq.newL {ds : List D} {vs : List V} (q : Kq Z H Qa Q) (sr : SR Z S H) (r : RDs Z H ds vs) (h : newW (.lst ds) S Qa) : ∀ p, H p = none → Q (.ref p) (upd H p (.lst vs)) := fun p n =>
  q (.ref p) (.ref p) (S.upd p (.lst ds)) _ (TK.new n) (sr.put (TK.new n) ⟨vs, upd_same, r.keep (TK.new n)⟩) .ref (h p (sr.free n))
/-- a new tuple -/
theorem Kq.newT {ds : List D} {vs : List V} (q : Kq Z H Qa Q) (sr : SR Z S H) (r : RDs Z H ds vs) (h : Qa (.tup ds) S) : ∀ p, H p = none → Q (.ref p) (upd H p (.tup vs)) := fun p n =>
  q (.tup ds) (.ref p) S _ (TK.new n) (sr.new n) (.tup (.inl upd_same) (r.keep (TK.new n))) h
theorem lstAt {a : Addr} {ds : List D} (sr : SR Z S H) (e : S a = some (.lst ds)) : ∃ vs, H a = some (.lst vs) ∧ RDs Z H ds vs := sr a _ e
theorem rdAt {K : PySem.W.Frag} {a : Addr} {ds : List D} (sr : SR Z S H) (e : rd S a = some ds) : ∃ vs, SqL K H a vs ∧ RDs Z H ds vs := by
  unfold rd at e
  split at e
  · rename_i q; cases e
    obtain ⟨vs, h, r⟩ := sr a _ q
    exact ⟨vs, SqL.of h, r⟩
  · rename_i q; cases e
    obtain ⟨o, vs, h, r⟩ := sr a _ q
    exact ⟨vs, .inl (.inr ⟨o, h⟩), r⟩
  · cases e
/-! ### equality -/
mutual
theorem PD.dp (hK : Z.K = X.K) (sr : SR Z S H) : ∀ {d : D} {p : PyData} {v : V}, PD S d p → RD Z H d v → Dp X.K H v p
  | _, _, _, .non, r => by cases r; exact .non
  | _, _, _, .bl, r => by cases r; exact .bl _
  | _, _, _, .int, r => by cases r; exact .int _
  | _, _, _, .str _, r => by cases r; exact .str _
  | _, _, _, .tup h, r => by
    cases r with
    | tup t rs => exact .tup (by rw [← hK]; exact t.sq) (PDs.dp hK sr h rs)
  | _, _, _, .ref e h, r => by
    cases r
    obtain ⟨vs, q, rs⟩ := rdAt (K := X.K) sr e
    exact .lst q (PDs.dp hK sr h rs)
theorem PDs.dp (hK : Z.K = X.K) (sr : SR Z S H) : ∀ {ds : List D} {ps : List PyData} {vs : List V}, PDs S ds ps → RDs Z H ds vs → DpAll X.K H vs ps
  | _, _, _, .nil, r => by cases r; exact .nil
  | _, _, _, .cons h t, r => by
    cases r with
    | cons r rs => exact .cons (PD.dp hK sr h r) (PDs.dp hK sr t rs)
end
mutual
theorem PD.lay : ∀ {d : D} {p : PyData}, PD S d p → p.canLay0 = true
  | _, _, .non => rfl
  | _, _, .bl => rfl
  | _, _, .int => rfl
  | _, _, .str h => by
    show ((st _).cps.all (· < 0x110000)) = true
    rw [← h]
    simp [st]
  | _, _, .tup h => by rw [PyData.canLay0]; exact PDs.lay h
  | _, _, .ref _ h => by rw [PyData.canLay0]; exact PDs.lay h
theorem PDs.lay : ∀ {ds : List D} {ps : List PyData}, PDs S ds ps → PyData.canLayAll0 ps = true
  | _, _, .nil => rfl
  | _, _, .cons h t => by rw [PyData.canLayAll0, PD.lay h, PDs.lay t]; rfl
end
theorem op_eqR (hu : X.A.units + 190 < cLine) : OpR X (compareOp .Eq) (fun x y H Q => ∃ d e, Dp X.K H x d ∧ Dp X.K H y e ∧ d.canLay0 = true ∧ e.canLay0 = true ∧ eqRoom d e ∧ Q (.bl (PyData.eqv d e)) H) := by
  intro pins s σ H x y v u Q I rx ry h
  obtain ⟨d, e, hd, he, sd, se, hr, q⟩ := h
  obtain ⟨as, r1⟩ := Dp.reads I d x v hd rx
  obtain ⟨bs, r2⟩ := Dp.reads I e y u he ry
  exact SeqAt.compareEq_reads r1 r2 sd se (by unfold eqRoom at hr; omega) ⟨.bl _, H, I, rfl, q⟩
theorem op_neR (hu : X.A.units + 190 < cLine) : OpR X (compareOp .NotEq) (fun x y H Q => ∃ d e, Dp X.K H x d ∧ Dp X.K H y e ∧ d.canLay0 = true ∧ e.canLay0 = true ∧ eqRoom d e ∧ Q (.bl (!PyData.eqv d e)) H) := by
  intro pins s σ H x y v u Q I rx ry h
  obtain ⟨d, e, hd, he, sd, se, hr, q⟩ := h
  obtain ⟨as, r1⟩ := Dp.reads I d x v hd rx
  obtain ⟨bs, r2⟩ := Dp.reads I e y u he ry
  exact SeqAt.compareNe_reads r1 r2 sd se (by unfold eqRoom at hr; omega) ⟨.bl _, H, I, rfl, q⟩
theorem beq_st (a b : List Nat) : decide (V.str (st a) = V.str (st b)) = (a == b) := by
  by_cases e : a = b
  · subst e; simp
  · have h : ¬ V.str (st a) = V.str (st b) := fun q => e (st_inj (V.str.inj q))
    rw [decide_eq_false h]; exact (beq_eq_false_iff_ne.mpr e).symm
theorem beq_in (a b : Int) : decide (V.int a = V.int b) = (a == b) := dec_int
/-- x == y -/
theorem eq_ok (hK : Z.K = X.K) (hu : X.A.units + 190 < cLine) {x y : D} {v u : V} (sr : SR Z S H) (rx : RD Z H x v) (ry : RD Z H y u) (h : eqW x y false S Qa) (q : Kq Z H Qa Q) : rAny X (compareOp .Eq) v u H Q := by
  unfold eqW at h
  split at h
  · cases rx; cases ry
    exact ⟨_, op_eq, rfl, by rw [beq_in]; exact q.pure sr .bl (by simpa using h)⟩
  · cases rx; cases ry
    exact ⟨_, op_eq, rfl, by rw [beq_st]; exact q.pure sr .bl (by simpa using h)⟩
  · obtain ⟨r, e, h⟩ := h
    rw [Bool.false_xor] at h
    cases e with
    | int => cases rx; cases ry; exact ⟨_, op_eq, rfl, by rw [beq_in]; exact q.pure sr .bl h⟩
    | str => cases rx; cases ry; exact ⟨_, op_eq, rfl, by rw [beq_st]; exact q.pure sr .bl h⟩
    | dat p1 p2 rm => exact ⟨_, op_eqR hu, _, _, p1.dp hK sr rx, p2.dp hK sr ry, p1.lay, p2.lay, rm, q.pure sr .bl h⟩
theorem ne_ok (hK : Z.K = X.K) (hu : X.A.units + 190 < cLine) {x y : D} {v u : V} (sr : SR Z S H) (rx : RD Z H x v) (ry : RD Z H y u) (h : eqW x y true S Qa) (q : Kq Z H Qa Q) : rAny X (compareOp .NotEq) v u H Q := by
  unfold eqW at h
  split at h
  · cases rx; cases ry
    exact ⟨_, op_ne, rfl, by rw [beq_in]; exact q.pure sr .bl (by simpa using h)⟩
  · cases rx; cases ry
    exact ⟨_, op_ne, rfl, by rw [beq_st]; exact q.pure sr .bl (by simpa using h)⟩
  · obtain ⟨r, e, h⟩ := h
    rw [Bool.true_xor] at h
    cases e with
    | int => cases rx; cases ry; exact ⟨_, op_ne, rfl, by rw [beq_in]; exact q.pure sr .bl h⟩
    | str => cases rx; cases ry; exact ⟨_, op_ne, rfl, by rw [beq_st]; exact q.pure sr .bl h⟩
    | dat p1 p2 rm => exact ⟨_, op_neR hu, _, _, p1.dp hK sr rx, p2.dp hK sr ry, p1.lay, p2.lay, rm, q.pure sr .bl h⟩
end
end Mini
end L2
/-! Mini: zip of a list and a tuple; list(zip(..)) -/
namespace L2
namespace Mini
namespace ZM
open PySem
open PySem.Sem (wp)
open RZ
section
variable {prog : Program} {w : World} {A : Around} {E : Value → Shared → Prop} {s : Shared}
theorem next_item {z TI TO i1 i2 l1 l2 : Addr} {k1 k2 : Nat} {xs ys : Array Value} {x y a b : Value} {Q : Value → Shared → Prop} (D : ZipApart z TI TO i1 i2 l1 l2)
    (hz : IsZip s.heap z TI TO .none) (hTI : IsPair s.heap TI (.ref i1) (.ref i2)) (hTO : IsPair s.heap TO a b)
    (h1 : s.heap.IsListIter i1 l1 k1) (h2 : s.heap.IsTupleIter i2 l2 k2) (hl1 : s.heap.IsList l1 xs) (hl2 : s.heap.IsTuple l2 ys) (hx : xs[k1]? = some x) (hy : ys[k2]? = some y)
    (hQ : ∀ h', IsZip h' z TI TO (rawInt s.heap.objs.size) → IsPair h' TO x y → h'.IsListIter i1 l1 (k1 + 1) → h'.IsTupleIter i2 l2 (k2 + 1) → IsPair h' s.heap.objs.size x y → h'.objs.size = s.heap.objs.size + 1 →
      (∀ c o, c ≠ z → c ≠ TO → c ≠ i1 → c ≠ i2 → s.heap.get? c = some o → h'.get? c = some o) → Q (.ref s.heap.objs.size) { s with heap := h' }) :
    wpAny (model prog w) A (Builtin.«zip.__next__» ⟨[.ref z], []⟩) (fun fin s' => ∃ v, fin = .done (.ret v) ∧ Q v s') E s := by
  show wpAny _ _ (field (.ref z) 2 >>= _) _ _ _
  refine wpAny_bind (wpAny_field hz rfl (x := .bool false) rfl ?_)
  show wpAny _ _ (field (.ref z) 3 >>= _) _ _ _
  refine wpAny_bind (wpAny_field hz rfl (x := .ref TI) rfl ?_)
  refine wpAny_bind (wpAny_seqItems hTI rfl ?_)
  show wpAny _ _ (Builtin.SmallTypes.ownedTupleIsFree (.ref z) >>= _) _ _ _
  refine wpAny_bind ?_
  unfold Builtin.SmallTypes.ownedTupleIsFree
  refine wpAny_bind (wpAny_field hz rfl (x := .none) rfl (wpAny_pure ?_))
  simp only [if_true]
  refine wpAny_bind (wpAny_rule ?_)
  refine wpAny_bind (wpAny_field hz rfl (x := .ref TO) rfl ?_)
  refine wpAny_bind (wpAny_setField_rec hz (by simp) fun h₁ hz₁ hs₁ => ?_)
  replace hz₁ : IsZip h₁ z TI TO .ellipsis := hz₁
  refine wpAny_bind ?_
  simp only [List.zipIdx_cons, List.zipIdx_nil, List.forIn_cons, List.forIn_nil]
  refine wpAny_bind (wpAny_bind (wpAny_onRaise ?_))
  show wpAny _ _ (Builtin.SmallTypes.nextOf (.ref i1) >>= _) _ _ _
  refine wpAny_bind (wpAny_nextOf_list_item (h1.extBut hs₁.extBut D.i1z) (hl1.extBut hs₁.extBut D.l1z) hx fun h₂ h1₂ hs₂ => wpAny_pure ?_)
  have hTO₂ : IsPair h₂ TO a b := hs₂.extBut _ _ D.TOi1 (hs₁.extBut _ _ D.TOz hTO)
  refine wpAny_bind (wpAny_seqItems hTO₂ rfl ?_)
  refine wpAny_bind (wpAny_updateSeq_pair hTO₂ fun h₃ hTO₃ hs₃ => ?_)
  replace hTO₃ : IsPair h₃ TO x b := hTO₃
  refine wpAny_bind (wpAny_letGo (wpAny_pure ?_))
  refine wpAny_bind (wpAny_bind (wpAny_onRaise ?_))
  show wpAny _ _ (Builtin.SmallTypes.nextOf (.ref i2) >>= _) _ _ _
  refine wpAny_bind (nextOf_tuple_item (((h2.extBut hs₁.extBut D.i2z).extBut hs₂.extBut D.i12.symm).extBut hs₃.extBut D.TOi2.symm)
    (((hl2.extBut hs₁.extBut D.l2z).extBut hs₂.extBut D.l2i1).extBut hs₃.extBut D.l2TO) hy fun h₄ h2₄ hs₄ => wpAny_pure ?_)
  have hTO₄ : IsPair h₄ TO x b := hs₄.extBut _ _ D.TOi2 hTO₃
  refine wpAny_bind (wpAny_seqItems hTO₄ rfl ?_)
  refine wpAny_bind (wpAny_updateSeq_pair hTO₄ fun h₅ hTO₅ hs₅ => ?_)
  replace hTO₅ : IsPair h₅ TO x y := hTO₅
  refine wpAny_bind (wpAny_letGo (wpAny_pure (wpAny_pure ?_)))
  refine wpAny_bind (wpAny_seqItems hTO₅ rfl ?_)
  refine wpAny_bind (wpAny_newTuple ?_)
  have hsz : h₅.objs.size = s.heap.objs.size := by rw [hs₅.1, hs₄.1, hs₃.1, hs₂.1, hs₁.1]
  have hz₅ : IsZip h₅ z TI TO .ellipsis := hs₅.extBut _ _ D.TOz.symm (hs₄.extBut _ _ D.i2z.symm (hs₃.extBut _ _ D.TOz.symm (hs₂.extBut _ _ D.i1z.symm hz₁)))
  have hk₅ : ∀ c o, c ≠ z → c ≠ TO → c ≠ i1 → c ≠ i2 → s.heap.get? c = some o → h₅.get? c = some o := fun c o c1 c2 c3 c4 e =>
    hs₅.extBut _ _ c2 (hs₄.extBut _ _ c4 (hs₃.extBut _ _ c2 (hs₂.extBut _ _ c3 (hs₁.extBut _ _ c1 e))))
  have h1₅ : h₅.IsListIter i1 l1 (k1 + 1) := ((h1₂.extBut hs₃.extBut D.TOi1.symm).extBut hs₄.extBut D.i12).extBut hs₅.extBut D.TOi1.symm
  have h2₅ : h₅.IsTupleIter i2 l2 (k2 + 1) := h2₄.extBut hs₅.extBut D.TOi2.symm
  have hzlt : z < h₅.objs.size := Heap.lt_size hz₅
  show wpAny _ _ (Builtin.SmallTypes.ownedTupleHandOut (.ref z) (.ref h₅.objs.size) >>= _) _ _ _
  refine wpAny_bind ?_
  unfold Builtin.SmallTypes.ownedTupleHandOut
  have hz₆ : IsZip (h₅.push { cls := .type "tuple", data := .seq #[x, y] }) z TI TO .ellipsis := Heap.get?_push_of_some _ hz₅
  refine wpAny_bind (wpAny_setField_rec hz₆ (by simp) fun h₇ hz₇ hs₇ => ?_)
  replace hz₇ : IsZip h₇ z TI TO (rawInt h₅.objs.size) := hz₇
  refine wpAny_setField_rec hz₇ (by simp) fun h₈ hz₈ hs₈ => ?_
  replace hz₈ : IsZip h₈ z TI TO (rawInt h₅.objs.size) := hz₈
  have up : ∀ c o, c ≠ z → h₅.get? c = some o → h₈.get? c = some o := fun c o c1 e => hs₈.extBut _ _ c1 (hs₇.extBut _ _ c1 (Heap.get?_push_of_some _ e))
  have hT₈ : IsPair h₈ h₅.objs.size x y := hs₈.extBut _ _ (Nat.ne_of_gt hzlt) (hs₇.extBut _ _ (Nat.ne_of_gt hzlt) (Heap.get?_push_size _ rfl))
  have hz8 : h₈.objs.size = h₅.objs.size + 1 := by rw [hs₈.1, hs₇.1, Heap.size_push]
  rw [hsz] at hz₈ hT₈ hz8
  refine wpAny_pure ⟨_, rfl, ?_⟩
  show Q (.ref h₅.objs.size) _
  rw [hsz]
  exact hQ h₈ hz₈ (up _ _ D.TOz hTO₅) (h1₅.at fun o e => up _ o D.i1z e) (h2₅.at fun o e => up _ o D.i2z e) hT₈ hz8 fun c o c1 c2 c3 c4 e => up c o c1 (hk₅ c o c1 c2 c3 c4 e)
theorem next_end {z TI TO i1 i2 l1 l2 : Addr} {k1 k2 : Nat} {xs ys : Array Value} {a b : Value} {Q : Fin → Shared → Prop} (hh : A.handled = none) (D : ZipApart z TI TO i1 i2 l1 l2)
    (hz : IsZip s.heap z TI TO .none) (hTI : IsPair s.heap TI (.ref i1) (.ref i2)) (hTO : IsPair s.heap TO a b)
    (h1 : s.heap.IsListIter i1 l1 k1) (h2 : s.heap.IsTupleIter i2 l2 k2) (hl1 : s.heap.IsList l1 xs) (hl2 : s.heap.IsTuple l2 ys) (hend : xs[k1]? = none ∨ ys[k2]? = none)
    (hE : ∀ h' e, (∀ c o, c ≠ z → c ≠ TO → c ≠ i1 → c ≠ i2 → s.heap.get? c = some o → h'.get? c = some o) → (∃ o, h'.get? e = some o ∧ o.cls = .type "StopIteration") → E (.ref e) { s with heap := h' }) :
    wpAny (model prog w) A (Builtin.«zip.__next__» ⟨[.ref z], []⟩) Q E s := by
  show wpAny _ _ (field (.ref z) 2 >>= _) _ _ _
  refine wpAny_bind (wpAny_field hz rfl (x := .bool false) rfl ?_)
  show wpAny _ _ (field (.ref z) 3 >>= _) _ _ _
  refine wpAny_bind (wpAny_field hz rfl (x := .ref TI) rfl ?_)
  refine wpAny_bind (wpAny_seqItems hTI rfl ?_)
  show wpAny _ _ (Builtin.SmallTypes.ownedTupleIsFree (.ref z) >>= _) _ _ _
  refine wpAny_bind ?_
  unfold Builtin.SmallTypes.ownedTupleIsFree
  refine wpAny_bind (wpAny_field hz rfl (x := .none) rfl (wpAny_pure ?_))
  simp only [if_true]
  refine wpAny_bind (wpAny_rule ?_)
  refine wpAny_bind (wpAny_field hz rfl (x := .ref TO) rfl ?_)
  refine wpAny_bind (wpAny_setField_rec hz (by simp) fun h₁ hz₁ hs₁ => ?_)
  replace hz₁ : IsZip h₁ z TI TO .ellipsis := hz₁
  refine wpAny_bind ?_
  simp only [List.zipIdx_cons, List.zipIdx_nil, List.forIn_cons, List.forIn_nil]
  refine wpAny_bind (wpAny_bind (wpAny_onRaise ?_))
  show wpAny _ _ (Builtin.SmallTypes.nextOf (.ref i1) >>= _) _ _ _
  cases hx : xs[k1]? with
  | none =>
    refine wpAny_bind (wpAny_nextOf_list_end hh (h1.extBut hs₁.extBut D.i1z) (hl1.extBut hs₁.extBut D.l1z) hx fun h₂ e hs₂ he => ?_)
    obtain ⟨oe, hoe, hce⟩ := he
    have hz₂ : IsZip h₂ z TI TO .ellipsis := hs₂ _ _ D.i1z.symm hz₁
    have hez : e ≠ z := fun x => by subst x; rw [hz₂] at hoe; cases hoe; simp at hce
    refine wpAny_setField_rec hz₂ (by simp) fun h₃ _ hs₃ => hE h₃ e (fun c o c1 _ c3 _ x => hs₃.extBut _ _ c1 (hs₂ _ _ c3 (hs₁.extBut _ _ c1 x))) ⟨oe, hs₃.extBut _ _ hez hoe, hce⟩
  | some x =>
    have hy : ys[k2]? = none := by rcases hend with h | h; rw [hx] at h; cases h; exact h
    refine wpAny_bind (wpAny_nextOf_list_item (h1.extBut hs₁.extBut D.i1z) (hl1.extBut hs₁.extBut D.l1z) hx fun h₂ h1₂ hs₂ => wpAny_pure ?_)
    have hTO₂ : IsPair h₂ TO a b := hs₂.extBut _ _ D.TOi1 (hs₁.extBut _ _ D.TOz hTO)
    refine wpAny_bind (wpAny_seqItems hTO₂ rfl ?_)
    refine wpAny_bind (wpAny_updateSeq_pair hTO₂ fun h₃ hTO₃ hs₃ => ?_)
    refine wpAny_bind (wpAny_letGo (wpAny_pure ?_))
    refine wpAny_bind (wpAny_bind (wpAny_onRaise ?_))
    show wpAny _ _ (Builtin.SmallTypes.nextOf (.ref i2) >>= _) _ _ _
    refine wpAny_bind (nextOf_tuple_end hh (((h2.extBut hs₁.extBut D.i2z).extBut hs₂.extBut D.i12.symm).extBut hs₃.extBut D.TOi2.symm)
      (((hl2.extBut hs₁.extBut D.l2z).extBut hs₂.extBut D.l2i1).extBut hs₃.extBut D.l2TO) hy fun h₄ e hs₄ he => ?_)
    obtain ⟨oe, hoe, hce⟩ := he
    have hz₄ : IsZip h₄ z TI TO .ellipsis := hs₄ _ _ D.i2z.symm (hs₃.extBut _ _ D.TOz.symm (hs₂.extBut _ _ D.i1z.symm hz₁))
    have hez : e ≠ z := fun x => by subst x; rw [hz₄] at hoe; cases hoe; simp at hce
    refine wpAny_setField_rec hz₄ (by simp) fun h₅ _ hs₅ => hE h₅ e (fun c o c1 c2 c3 c4 x => hs₅.extBut _ _ c1 (hs₄ _ _ c4 (hs₃.extBut _ _ c2 (hs₂.extBut _ _ c3 (hs₁.extBut _ _ c1 x))))) ⟨oe, hs₅.extBut _ _ hez hoe, hce⟩
theorem next_item_held {z TI TO T i1 i2 l1 l2 : Addr} {f : Bool} {oT : Obj} {k1 k2 : Nat} {xs ys : Array Value} {x y : Value} {Q : Value → Shared → Prop} (D : ZipApart z TI TO i1 i2 l1 l2)
    (hz : IsZipHeld s.heap z TI TO T f) (hT : s.heap.get? T = some oT) (hTI : IsPair s.heap TI (.ref i1) (.ref i2))
    (h1 : s.heap.IsListIter i1 l1 k1) (h2 : s.heap.IsTupleIter i2 l2 k2) (hl1 : s.heap.IsList l1 xs) (hl2 : s.heap.IsTuple l2 ys) (hx : xs[k1]? = some x) (hy : ys[k2]? = some y)
    (hQ : ∀ h', IsZipHeld h' z TI TO T true → h'.IsListIter i1 l1 (k1 + 1) → h'.IsTupleIter i2 l2 (k2 + 1) → IsPair h' s.heap.objs.size x y → h'.objs.size = s.heap.objs.size + 1 →
      (∀ c o, c ≠ z → c ≠ i1 → c ≠ i2 → s.heap.get? c = some o → h'.get? c = some o) → Q (.ref s.heap.objs.size) { s with heap := h' }) :
    wpAny (model prog w) A (Builtin.«zip.__next__» ⟨[.ref z], []⟩) (fun fin s' => ∃ v, fin = .done (.ret v) ∧ Q v s') E s := by
  show wpAny _ _ (field (.ref z) 2 >>= _) _ _ _
  refine wpAny_bind (wpAny_field hz rfl (x := .bool false) rfl ?_)
  show wpAny _ _ (field (.ref z) 3 >>= _) _ _ _
  refine wpAny_bind (wpAny_field hz rfl (x := .ref TI) rfl ?_)
  refine wpAny_bind (wpAny_seqItems hTI rfl ?_)
  show wpAny _ _ (Builtin.SmallTypes.ownedTupleIsFree (.ref z) >>= _) _ _ _
  refine wpAny_bind (wpAny_tupleHeld_zip hz hT fun h₁ hz₁ hs₁ => ?_)
  simp only [Bool.false_eq_true, if_false]
  refine wpAny_bind ?_
  rw [← Array.forIn_toList]
  simp only [List.forIn_cons, List.forIn_nil]
  refine wpAny_bind (wpAny_bind (wpAny_holding ?_))
  show wpAny _ _ (Builtin.SmallTypes.nextOf (.ref i1) >>= _) _ _ _
  refine wpAny_bind (wpAny_nextOf_list_item (s := { s with heap := h₁ }) (h1.extBut hs₁.extBut D.i1z) (hl1.extBut hs₁.extBut D.l1z) hx fun h₂ h1₂ hs₂ => wpAny_pure ?_)
  refine wpAny_pure ?_
  refine wpAny_bind (wpAny_bind (wpAny_holding ?_))
  show wpAny _ _ (Builtin.SmallTypes.nextOf (.ref i2) >>= _) _ _ _
  refine wpAny_bind (nextOf_tuple_item (s := { s with heap := h₂ }) ((h2.extBut hs₁.extBut D.i2z).extBut hs₂.extBut D.i12.symm) ((hl2.extBut hs₁.extBut D.l2z).extBut hs₂.extBut D.l2i1) hy fun h₃ h2₃ hs₃ => wpAny_pure ?_)
  refine wpAny_pure (wpAny_pure ?_)
  show wpAny _ _ (newTuple [x, y] >>= _) _ _ _
  refine wpAny_bind (wpAny_newTuple ?_)
  have hsz : h₃.objs.size = s.heap.objs.size := by rw [hs₃.1, hs₂.1, hs₁.1]
  have hz₃ : IsZipHeld h₃ z TI TO T true := hs₃.extBut _ _ D.i2z.symm (hs₂.extBut _ _ D.i1z.symm hz₁)
  have hk : ∀ c o, c ≠ z → c ≠ i1 → c ≠ i2 → s.heap.get? c = some o → h₃.get? c = some o := fun c o c1 c2 c3 e => hs₃.extBut _ _ c3 (hs₂.extBut _ _ c2 (hs₁.extBut _ _ c1 e))
  have h1₃ : h₃.IsListIter i1 l1 (k1 + 1) := h1₂.extBut hs₃.extBut D.i12
  refine wpAny_pure ⟨_, rfl, ?_⟩
  show Q (.ref h₃.objs.size) _
  have hp : IsPair (h₃.push { cls := .type "tuple", data := .seq #[x, y] }) h₃.objs.size x y := Heap.get?_push_size _ rfl
  have hz4 : (h₃.push { cls := .type "tuple", data := .seq #[x, y] }).objs.size = h₃.objs.size + 1 := Heap.size_push ..
  rw [hsz] at hp hz4 ⊢
  exact hQ _ (Heap.get?_push_of_some _ hz₃) (h1₃.at fun o e => Heap.get?_push_of_some _ e) (h2₃.at fun o e => Heap.get?_push_of_some _ e) hp hz4 fun c o c1 c2 c3 e => Heap.get?_push_of_some _ (hk c o c1 c2 c3 e)
theorem next_end_held {z TI TO T i1 i2 l1 l2 : Addr} {f : Bool} {oT : Obj} {k1 k2 : Nat} {xs ys : Array Value} {Q : Fin → Shared → Prop} (hh : A.handled = none) (D : ZipApart z TI TO i1 i2 l1 l2)
    (hz : IsZipHeld s.heap z TI TO T f) (hT : s.heap.get? T = some oT) (hTI : IsPair s.heap TI (.ref i1) (.ref i2))
    (h1 : s.heap.IsListIter i1 l1 k1) (h2 : s.heap.IsTupleIter i2 l2 k2) (hl1 : s.heap.IsList l1 xs) (hl2 : s.heap.IsTuple l2 ys) (hend : xs[k1]? = none ∨ ys[k2]? = none)
    (hE : ∀ h' e, (∀ c o, c ≠ z → c ≠ i1 → c ≠ i2 → s.heap.get? c = some o → h'.get? c = some o) → (∃ o, h'.get? e = some o ∧ o.cls = .type "StopIteration") → E (.ref e) { s with heap := h' }) :
    wpAny (model prog w) A (Builtin.«zip.__next__» ⟨[.ref z], []⟩) Q E s := by
  show wpAny _ _ (field (.ref z) 2 >>= _) _ _ _
  refine wpAny_bind (wpAny_field hz rfl (x := .bool false) rfl ?_)
  show wpAny _ _ (field (.ref z) 3 >>= _) _ _ _
  refine wpAny_bind (wpAny_field hz rfl (x := .ref TI) rfl ?_)
  refine wpAny_bind (wpAny_seqItems hTI rfl ?_)
  show wpAny _ _ (Builtin.SmallTypes.ownedTupleIsFree (.ref z) >>= _) _ _ _
  refine wpAny_bind (wpAny_tupleHeld_zip hz hT fun h₁ hz₁ hs₁ => ?_)
  simp only [Bool.false_eq_true, if_false]
  refine wpAny_bind ?_
  rw [← Array.forIn_toList]
  simp only [List.forIn_cons, List.forIn_nil]
  refine wpAny_bind (wpAny_bind (wpAny_holding ?_))
  show wpAny _ _ (Builtin.SmallTypes.nextOf (.ref i1) >>= _) _ _ _
  cases hx : xs[k1]? with
  | none =>
    refine wpAny_bind (wpAny_nextOf_list_end (s := { s with heap := h₁ }) hh (h1.extBut hs₁.extBut D.i1z) (hl1.extBut hs₁.extBut D.l1z) hx fun h₂ e hs₂ he => ?_)
    exact hE h₂ e (fun c o c1 c2 _ x => hs₂ _ _ c2 (hs₁.extBut _ _ c1 x)) he
  | some x =>
    have hy : ys[k2]? = none := by rcases hend with h | h; rw [hx] at h; cases h; exact h
    refine wpAny_bind (wpAny_nextOf_list_item (s := { s with heap := h₁ }) (h1.extBut hs₁.extBut D.i1z) (hl1.extBut hs₁.extBut D.l1z) hx fun h₂ h1₂ hs₂ => wpAny_pure ?_)
    refine wpAny_pure ?_
    refine wpAny_bind (wpAny_bind (wpAny_holding ?_))
    show wpAny _ _ (Builtin.SmallTypes.nextOf (.ref i2) >>= _) _ _ _
    refine wpAny_bind (nextOf_tuple_end (s := { s with heap := h₂ }) hh ((h2.extBut hs₁.extBut D.i2z).extBut hs₂.extBut D.i12.symm) ((hl2.extBut hs₁.extBut D.l2z).extBut hs₂.extBut D.l2i1) hy fun h₃ e hs₃ he => ?_)
    exact hE h₃ e (fun c o c1 c2 c3 x => hs₃ _ _ c3 (hs₂.extBut _ _ c2 (hs₁.extBut _ _ c1 x))) he
end
abbrev zH1 (h : Heap) (l1 : Addr) : Heap := h.push { cls := .type "list_iterator", data := .fields #[.ref l1, .int 0 0] }
abbrev zH2 (h : Heap) (l1 l2 : Addr) : Heap := (zH1 h l1).push { cls := .type "tuple_iterator", data := .fields #[.ref l2, .int 0 0] }
abbrev zH3 (h : Heap) (l1 l2 : Addr) : Heap := (zH2 h l1 l2).push { cls := .type "tuple", data := .seq #[.ref h.objs.size, .ref (zH1 h l1).objs.size] }
abbrev zH4 (h : Heap) (l1 l2 : Addr) : Heap := (zH3 h l1 l2).push { cls := .type "tuple", data := .seq #[.none, .none] }
abbrev zH5 (h : Heap) (l1 l2 : Addr) : Heap := (zH4 h l1 l2).push { cls := .type "zip", data := .fields #[.none, .bool false, .bool false, .ref (zH2 h l1 l2).objs.size, .ref (zH3 h l1 l2).objs.size] }
theorem meets_new (l1 l2 : Addr) (xs ys : Array Value) :
    Meets (Builtin.«zip.__new__» ⟨[.type "zip", .ref l1, .ref l2], []⟩) (fun _ R s => s.heap.IsList l1 xs ∧ s.heap.IsTuple l2 ys ∧
      R (.ok (.ret (.ref (zH4 s.heap l1 l2).objs.size))) { s with heap := zH5 s.heap l1 l2 }) :=
  .of_wp fun prog w A R s h => by
    obtain ⟨hp, g, d, tk, os⟩ := s; obtain ⟨hl1, hl2, h⟩ := h
    have hsub := sub_zip
    have hL1 : Heap.IsList (Shared.heap ⟨hp, g, d, tk, os⟩) l1 xs := hl1
    have hL2 : Heap.IsTuple (Shared.heap ⟨hp.push { cls := .type "list_iterator", data := .fields #[.ref l1, .int 0 0] }, g, d, tk, os⟩) l2 ys := Heap.IsTuple.push hl2 _
    wp_walk using wpAny_pyIter_list hL1, wpAny_pyIter_tuple hL2
    exact ⟨_, rfl, h⟩
section
variable {prog : Program} {w : World} {A : Around} {E : Value → Shared → Prop} {s : Shared}
theorem call_zip {l1 l2 : Addr} {xs ys : Array Value} {Q : Value → Shared → Prop} (hl1 : s.heap.IsList l1 xs) (hl2 : s.heap.IsTuple l2 ys)
    (h : ∀ h', IsZip h' (s.heap.objs.size + 4) (s.heap.objs.size + 2) (s.heap.objs.size + 3) .none → IsPair h' (s.heap.objs.size + 2) (.ref s.heap.objs.size) (.ref (s.heap.objs.size + 1)) →
      IsPair h' (s.heap.objs.size + 3) .none .none → h'.IsListIter s.heap.objs.size l1 0 → h'.IsTupleIter (s.heap.objs.size + 1) l2 0 → h'.objs.size = s.heap.objs.size + 5 →
      (∀ c o, s.heap.get? c = some o → h'.get? c = some o) → Q (.ref (s.heap.objs.size + 4)) { s with heap := h' }) :
    wpAny (model prog w) A (call (.type "zip") [.ref l1, .ref l2]) Q E s := by
  refine callType_new F.called_zip (by decide) (F.typeCall_zip_2 _ _) (F.newCall_zip_2 _ _) (fun obj => F.args_object_init_3 obj _ _) F.entry_zip_new
    (meets_new l1 l2 xs ys) ⟨hl1, hl2, ?_⟩
  have z1 : (zH1 s.heap l1).objs.size = s.heap.objs.size + 1 := Heap.size_push ..
  have z2 : (zH2 s.heap l1 l2).objs.size = s.heap.objs.size + 2 := by rw [Heap.size_push, z1]
  have z3 : (zH3 s.heap l1 l2).objs.size = s.heap.objs.size + 3 := by rw [Heap.size_push, z2]
  have z4 : (zH4 s.heap l1 l2).objs.size = s.heap.objs.size + 4 := by rw [Heap.size_push, z3]
  have z5 : (zH5 s.heap l1 l2).objs.size = s.heap.objs.size + 5 := by rw [Heap.size_push, z4]
  have g5 : (zH5 s.heap l1 l2).get? (zH4 s.heap l1 l2).objs.size = some _ := Heap.get?_push_size _ rfl
  have g4 : (zH5 s.heap l1 l2).get? (zH3 s.heap l1 l2).objs.size = some _ := Heap.get?_push_of_some _ (Heap.get?_push_size _ rfl)
  have g3 : (zH5 s.heap l1 l2).get? (zH2 s.heap l1 l2).objs.size = some _ := Heap.get?_push_of_some _ (Heap.get?_push_of_some _ (Heap.get?_push_size _ rfl))
  have g2 : (zH5 s.heap l1 l2).get? (zH1 s.heap l1).objs.size = some _ := Heap.get?_push_of_some _ (Heap.get?_push_of_some _ (Heap.get?_push_of_some _ (Heap.get?_push_size _ rfl)))
  have g1 : (zH5 s.heap l1 l2).get? s.heap.objs.size = some _ := Heap.get?_push_of_some _ (Heap.get?_push_of_some _ (Heap.get?_push_of_some _ (Heap.get?_push_of_some _ (Heap.get?_push_size _ rfl))))
  show _ ∧ _
  rw [z2, z3, z4] at g5
  rw [z1, z2] at g3
  rw [z3] at g4
  rw [z1] at g2
  rw [z4]
  exact ⟨⟨_, g5, rfl⟩, h _ g5 g3 g4 ⟨_, g1, rfl, rfl⟩ ⟨_, g2, rfl, rfl⟩ z5 fun c o x =>
    Heap.get?_push_of_some _ (Heap.get?_push_of_some _ (Heap.get?_push_of_some _ (Heap.get?_push_of_some _ (Heap.get?_push_of_some _ x))))⟩
end
open PySem.Spec PyProof.Rows
section
variable {X : Cx} {pins : List (Addr × Obj)} {σ : St} {H : Hp} {s : Shared} {z TI TO i1 i2 a b : Addr} {A1 : Around}
/-- the zip behind i items; the first tuple that it gave out is still there -/
def ZSt (z TI TO i1 i2 a b : Addr) (i : Nat) (h : Heap) : Prop :=
  IsPair h TI (.ref i1) (.ref i2) ∧ h.IsListIter i1 a i ∧ h.IsTupleIter i2 b i ∧ (∃ x y, IsPair h TO x y) ∧
  (IsZip h z TI TO .none ∨ ∃ T f oT, IsZipHeld h z TI TO T f ∧ h.get? T = some oT ∧ T ≠ z ∧ T ≠ i1 ∧ T ≠ i2)
theorem ZSt.lt {i : Nat} {h : Heap} (st : ZSt z TI TO i1 i2 a b i h) : ∀ c ∈ [z, TI, TO, i1, i2], c < h.objs.size := fun c hc => by
  obtain ⟨hTI, ⟨_, e1, _⟩, ⟨_, e2, _⟩, ⟨x, y, hTO⟩, hz⟩ := st
  have e' : c = z ∨ c = TI ∨ c = TO ∨ c = i1 ∨ c = i2 := by simpa using hc
  rcases e' with q | q | q | q | q
  · rw [q]; rcases hz with hz | ⟨_, _, _, hz, _⟩ <;> exact Heap.lt_size hz
  · rw [q]; exact Heap.lt_size hTI
  · rw [q]; exact Heap.lt_size hTO
  · rw [q]; exact Heap.lt_size e1
  · rw [q]; exact Heap.lt_size e2
theorem py_item {i : Nat} {xs ys : List V} {x y : V} {E : Value → Shared → Prop} (D : ZipApart z TI TO i1 i2 a b) (I : Inv X pins σ H s) (hf : ∀ c ∈ [z, TI, TO, i1, i2], FpOk X pins H c) (st : ZSt z TI TO i1 i2 a b i s.heap) (hqx : SqL X.K H a xs) (hqy : SqT X.K H b ys) (hx : xs[i]? = some x) (hy : ys[i]? = some y) :
    wpAny (model X.prog X.w) A1 (pyNext (.ref z)) (fun r s' => ∃ T, r = some (.ref T) ∧ H T = none ∧ Inv X pins σ (upd H T (.tup [x, y])) s' ∧ ZSt z TI TO i1 i2 a b (i + 1) s'.heap ∧ (∀ c ∈ [z, TI, TO, i1, i2], FpOk X pins (upd H T (.tup [x, y])) c)) E s := by
  have hlt := st.lt
  obtain ⟨hTI, h1, h2, ⟨x0, y0, hTO⟩, hz⟩ := st
  obtain ⟨its, rv, p, _⟩ := I.list hqx
  obtain ⟨its2, rv2, p2, _⟩ := I.tuple hqy
  obtain ⟨u, hu, ru⟩ := rv.get hx
  obtain ⟨u2, hu2, ru2⟩ := rv2.get hy
  have hfT : ∀ c ∈ [z, TI, TO, i1, i2], FpOk X pins (upd H s.heap.objs.size (.tup [x, y])) c := fun c hc => ⟨by rw [upd_ne (Nat.ne_of_lt (hlt c hc))]; exact (hf c hc).1, (hf c hc).2⟩
  have fin : ∀ h' : Heap, IsPair h' s.heap.objs.size u u2 → (∀ c o, c ≠ z → c ≠ TO → c ≠ i1 → c ≠ i2 → s.heap.get? c = some o → h'.get? c = some o) → Inv X pins σ (upd H s.heap.objs.size (.tup [x, y])) { s with heap := h' } := fun h' hT hk => by
    have new : ObjOk X.prog X.w (upd H s.heap.objs.size (.tup [x, y])) h' s.heap.objs.size (.tup [x, y]) :=
      ⟨by show 2 ≤ sizeLine; decide, [u, u2], .cons ru (.cons ru2 .nil), ⟨_, hT, rfl, _, rfl⟩⟩
    exact I.turnedNew (t' := s.toks) (ch := [z, TI, TO, i1, i2]) (fun c o hb q => hk c o (fun q' => hb (by simp [q'])) (fun q' => hb (by simp [q'])) (fun q' => hb (by simp [q'])) (fun q' => hb (by simp [q'])) q) hf (Nat.le_refl _) new
  have hsz : ∀ c ∈ [z, TI, TO, i1, i2], s.heap.objs.size ≠ c := fun c hc => Nat.ne_of_gt (hlt c hc)
  have hTy : s.TypeIs (.ref z) "zip" := by rcases hz with hz | ⟨_, _, _, hz, _⟩ <;> exact ⟨_, hz, rfl⟩
  unfold pyNext
  rcases hz with hz | ⟨T, f, oT, hz, hT, d1, d2, d3⟩
  · refine wpAny_bind (wpAny_attempt (wpAny_callSpecial?_slot (name := Str.ofString "__next__") hTy F.slot_zip_next
      (wpAny_call_entry F.slot_zip_next hTy F.entry_zip_next
        (next_item D hz hTI hTO h1 h2 p.isList p2 (x := u) (y := u2) (by simpa using hu) (by simpa using hu2) fun h' b1 b2 b3 b4 b5 b6 b7 => wpAny_pure ?_) (F.args_zip_next_1 _))))
    exact ⟨s.heap.objs.size, rfl, I.fresh, fin h' b5 b7, ⟨b7 _ _ D.TIz D.TITO D.TIi1 D.TIi2 hTI, b3, b4, ⟨_, _, b2⟩, .inr ⟨s.heap.objs.size, false, _, b1, b5, hsz z (by simp), hsz i1 (by simp), hsz i2 (by simp)⟩⟩, hfT⟩
  · refine wpAny_bind (wpAny_attempt (wpAny_callSpecial?_slot (name := Str.ofString "__next__") hTy F.slot_zip_next
      (wpAny_call_entry F.slot_zip_next hTy F.entry_zip_next
        (next_item_held D hz hT hTI h1 h2 p.isList p2 (x := u) (y := u2) (by simpa using hu) (by simpa using hu2) fun h' b1 b3 b4 b5 b6 b7 => wpAny_pure ?_) (F.args_zip_next_1 _))))
    exact ⟨s.heap.objs.size, rfl, I.fresh, fin h' b5 fun c o c1 _ c3 c4 e => b7 c o c1 c3 c4 e, ⟨b7 _ _ D.TIz D.TIi1 D.TIi2 hTI, b3, b4, ⟨_, _, b7 _ _ D.TOz D.TOi1 D.TOi2 hTO⟩, .inr ⟨T, true, _, b1, b7 _ _ d1 d2 d3 hT, d1, d2, d3⟩⟩, hfT⟩
theorem py_done {i : Nat} {xs ys : List V} {E : Value → Shared → Prop} (hh : A1.handled = none) (D : ZipApart z TI TO i1 i2 a b) (I : Inv X pins σ H s) (hf : ∀ c ∈ [z, TI, TO, i1, i2], FpOk X pins H c) (st : ZSt z TI TO i1 i2 a b i s.heap) (hqx : SqL X.K H a xs) (hqy : SqT X.K H b ys) (hend : xs.length ≤ i ∨ ys.length ≤ i) :
    wpAny (model X.prog X.w) A1 (pyNext (.ref z)) (fun r s' => r = none ∧ Inv X pins σ H s') E s := by
  obtain ⟨hTI, h1, h2, ⟨x0, y0, hTO⟩, hz⟩ := st
  obtain ⟨its, rv, p, _⟩ := I.list hqx
  obtain ⟨its2, rv2, p2, _⟩ := I.tuple hqy
  have l1 := rv.length
  have l2 := rv2.length
  have he : its.toArray[i]? = none ∨ its2.toArray[i]? = none := by
    rcases hend with q | q
    · exact .inl (by simp; omega)
    · exact .inr (by simp; omega)
  have hTy : s.TypeIs (.ref z) "zip" := by rcases hz with hz | ⟨_, _, _, hz, _⟩ <;> exact ⟨_, hz, rfl⟩
  unfold pyNext
  rcases hz with hz | ⟨T, f, oT, hz, hT, d1, d2, d3⟩
  · refine wpAny_bind (wpAny_attempt (wpAny_callSpecial?_slot (name := Str.ofString "__next__") hTy F.slot_zip_next
      (wpAny_call_entry F.slot_zip_next hTy F.entry_zip_next (next_end hh D hz hTI hTO h1 h2 p.isList p2 he fun h' e hk hx => ?_) (F.args_zip_next_1 _))))
    obtain ⟨o, ho, hc⟩ := hx
    refine wpAny_bind (wpAny_isInstance (T := "StopIteration") (b := true) ⟨o, ho, hc⟩ isSubtype_stop ?_)
    exact wpAny_pure ⟨rfl, I.turnedL (t' := s.toks) (ch := [z, TI, TO, i1, i2]) (fun c o hb q => hk c o (fun q' => hb (by simp [q'])) (fun q' => hb (by simp [q'])) (fun q' => hb (by simp [q'])) (fun q' => hb (by simp [q'])) q) hf⟩
  · refine wpAny_bind (wpAny_attempt (wpAny_callSpecial?_slot (name := Str.ofString "__next__") hTy F.slot_zip_next
      (wpAny_call_entry F.slot_zip_next hTy F.entry_zip_next (next_end_held hh D hz hT hTI h1 h2 p.isList p2 he fun h' e hk hx => ?_) (F.args_zip_next_1 _))))
    obtain ⟨o, ho, hc⟩ := hx
    refine wpAny_bind (wpAny_isInstance (T := "StopIteration") (b := true) ⟨o, ho, hc⟩ isSubtype_stop ?_)
    exact wpAny_pure ⟨rfl, I.turnedL (t' := s.toks) (ch := [z, TI, TO, i1, i2]) (fun c o hb q => hk c o (fun q' => hb (by simp [q'])) (fun q' => hb (by simp [q'])) (fun q' => hb (by simp [q'])) q) hf⟩
end
theorem zip_no_len : typeLookup (.type "zip") "__len__" = pure none := by rw [typeLookup_type, builtinLookup_eq_fast]; kernel_rfl
theorem zip_no_hint : typeLookup (.type "zip") "__length_hint__" = pure none := by rw [typeLookup_type, builtinLookup_eq_fast]; kernel_rfl
section
variable {X : Cx} {Z : Nm} {pins : List (Addr × Obj)} {σ : St} {z TI TO i1 i2 a b q : Addr} {A1 : Around} {ds es : List D}
theorem zip_at {i : Nat} {d e : D} (h1 : ds[i]? = some d) (h2 : es[i]? = some e) : (zipD ds es).take (i + 1) = (zipD ds es).take i ++ [.tup [d, e]] := by
  have h : (zipD ds es)[i]? = some (.tup [d, e]) := by
    unfold zipD
    rw [List.getElem?_map, List.getElem?_zip_eq_some (z := (d, e)) |>.mpr ⟨h1, h2⟩]
    rfl
  rw [List.take_add_one, h]
  rfl
theorem sto_twice {S : Sto} {p : Addr} {c d : Cell} : (S.upd p c).upd p d = S.upd p d := by
  funext x
  by_cases e : x = p
  · rw [e, Sto.upd_same, Sto.upd_same]
  · rw [Sto.upd_ne e, Sto.upd_ne e, Sto.upd_ne e]
theorem ZSt.upd {i : Nat} {h : Heap} {f : Array Value → Array Value} {its : Array Value} {n : Nat} (st : ZSt z TI TO i1 i2 a b i h) (e : h.get? q = some { cls := .type "list", data := .seq its n }) (hq : q ∉ [z, TI, TO, i1, i2]) : ZSt z TI TO i1 i2 a b i (h.update q (Obj.mapSeq f)) := by
  have k : ∀ c, c ∈ [z, TI, TO, i1, i2] → ∀ o, h.get? c = some o → (h.update q (Obj.mapSeq f)).get? c = some o := fun c hc o ho =>
    (Heap.get?_update_other _ _ (fun x => hq (by rw [x]; exact hc))).trans ho
  obtain ⟨hTI, h1, h2, ⟨x0, y0, hTO⟩, hz⟩ := st
  refine ⟨k TI (by simp) _ hTI, h1.at fun o q => k i1 (by simp) o q, h2.at fun o q => k i2 (by simp) o q, ⟨x0, y0, k TO (by simp) _ hTO⟩, ?_⟩
  rcases hz with hz | ⟨T, f', oT, hz, hT, d⟩
  · exact .inl (k z (by simp) _ hz)
  · by_cases ht : T = q
    · subst ht
      exact .inr ⟨T, f', _, k z (by simp) _ hz, Heap.get?_update_self (Obj.mapSeq f) e rfl, d⟩
    · exact .inr ⟨T, f', oT, k z (by simp) _ hz, (Heap.get?_update_other _ _ (Ne.symm ht)).trans hT, d⟩
/-- what the loop keeps -/
structure ZL (X : Cx) (Z : Nm) (pins : List (Addr × Obj)) (σ : St) (z TI TO i1 i2 a b q : Addr) (ds es : List D) (H0 : Hp) (S0 : Sto) (i : Nat) (H : Hp) (s : Shared) : Prop where
  inv : Inv X pins σ H s
  sr : SR Z (S0.upd q (.lst ((zipD ds es).take i))) H
  tk : TK H0 H
  ra : rd S0 a = some ds
  tb : ∃ us, TupAt X.K H b us ∧ RDs Z H es us
  st : ZSt z TI TO i1 i2 a b i s.heap
  fp : ∀ c ∈ [z, TI, TO, i1, i2], FpOk X pins H c
theorem ext_loop {H0 : Hp} {S0 : Sto} {Rs : Result → Shared → Prop} (hK : Z.K = X.K) (hh : A1.in1.handled = none) (D : ZipApart z TI TO i1 i2 a b) (hq0 : S0 q = none) (hqf : q ∉ [z, TI, TO, i1, i2]) (hz : (zipD ds es).length < sizeLine)
    (hR : ∀ H s, Inv X pins σ H s → SR Z (S0.upd q (.lst (zipD ds es))) H → TK H0 H → Rs (.ok (.ret .none)) s) :
    ∀ (k i : Nat) (H : Hp) (s : Shared), min ds.length es.length - i = k → i ≤ min ds.length es.length → ZL X Z pins σ z TI TO i1 i2 a b q ds es H0 S0 i H s →
      codeAny (model X.prog X.w) A1 (.builtin "list.extend.loop" ⟨[.ref q, .ref z, .none], []⟩) Rs s := by
  intro k
  induction k with
  | zero =>
    intro i H s hk hi L
    have ne : a ≠ q := fun e => by have := L.ra; unfold rd at this; rw [e, hq0] at this; cases this
    have ra' : rd (S0.upd q (.lst ((zipD ds es).take i))) a = some ds := by unfold rd; rw [Sto.upd_ne ne]; exact L.ra
    obtain ⟨vs, sq, rs⟩ := rdAt (K := X.K) L.sr ra'
    obtain ⟨us, squ0, ru⟩ := L.tb
    have squ := squ0.sq
    refine codeAny_builtin F.entry_extend_loop ?_
    rw [Around.under_plainId F.plain_extend_loop _]
    show wpAny _ A1.in1 (pyNext (.ref z) >>= _) _ _ s
    refine wpAny_bind (wpAny_mono (py_done hh D L.inv L.fp L.st sq squ (by rw [← rs.length, ← ru.length]; omega)) (fun r s' hr => ?_) fun e s' he => he)
    obtain ⟨rfl, I'⟩ := hr
    refine wpAny_pure (hR H s' I' ?_ L.tk)
    have e : (zipD ds es).take i = zipD ds es := List.take_of_length_le (by unfold zipD; rw [List.length_map, List.length_zip]; omega)
    have := L.sr
    rw [e] at this
    exact this
  | succ k ih =>
    intro i H s hk hi L
    have ne : a ≠ q := fun e => by have := L.ra; unfold rd at this; rw [e, hq0] at this; cases this
    have ra' : rd (S0.upd q (.lst ((zipD ds es).take i))) a = some ds := by unfold rd; rw [Sto.upd_ne ne]; exact L.ra
    obtain ⟨vs, sq, rs⟩ := rdAt (K := X.K) L.sr ra'
    obtain ⟨us, squ0, ru⟩ := L.tb
    have squ := squ0.sq
    have hi1 : i < ds.length := by omega
    have hi2 : i < es.length := by omega
    obtain ⟨x, hx, rx⟩ := rs.get (List.getElem?_eq_getElem hi1)
    obtain ⟨y, hy, ry⟩ := ru.get (List.getElem?_eq_getElem hi2)
    refine codeAny_builtin F.entry_extend_loop ?_
    rw [Around.under_plainId F.plain_extend_loop _]
    show wpAny _ A1.in1 (pyNext (.ref z) >>= _) _ _ s
    refine wpAny_bind (wpAny_mono (py_item D L.inv L.fp L.st sq squ hx hy) (fun r s' hr => ?_) fun e s' he => he)
    obtain ⟨T, rfl, hT, I', st', fp'⟩ := hr
    have tk1 : TK H (upd H T (.tup [x, y])) := TK.new hT
    have sr1 := L.sr.new (o := .tup [x, y]) hT
    obtain ⟨ws, hqH, rw_⟩ := sr1 q _ Sto.upd_same
    show wpAny _ A1.in1 (updateSeq q (·.push (.ref T)) >>= _) _ _ _
    obtain ⟨zz, its, kk, r2, hl, e⟩ := I'.lstM hqH
    have hlen : ws.length = i := by rw [← rw_.length, List.length_take]; unfold zipD; rw [List.length_map, List.length_zip]; omega
    have hiz : i < (zipD ds es).length := by unfold zipD; rw [List.length_map, List.length_zip]; omega
    refine wpAny_bind (wpAny_updateSeq e rfl (wpAny_pure ⟨plainId_quiet PySem.F.plain_extend_loop _, ?_⟩) (by rw [List.size_toArray]; omega) (by show (its.toArray.push (.ref T)).size ≤ sizeLine + 1; rw [Array.size_push, List.size_toArray]; omega))
    have I2 := I'.lset (f := (·.push (Value.ref T))) (its' := its ++ [.ref T]) (ys := ws ++ [.ref T]) (t' := s'.toks) hqH e (by simp) (r2.append (.cons (show RelV (V.ref T) (Value.ref T) from rfl) .nil)) (by rw [List.length_append, List.length_singleton]; omega)
    have tk2 : TK (upd H T (.tup [x, y])) (upd (upd H T (.tup [x, y])) q (.lst (ws ++ [.ref T]))) := TK.mut hqH True.intro
    have rt : RD Z (upd H T (.tup [x, y])) (.tup [ds[i], es[i]]) (.ref T) := .tup (.inl upd_same) (.cons (rx.keep tk1) (.cons (ry.keep tk1) .nil))
    refine ih (i + 1) _ _ (by omega) (by omega) ⟨I2, ?_, (L.tk.trans tk1).trans tk2, L.ra, ?_, ?_, fun c hc => ⟨?_, (fp' c hc).2⟩⟩
    · rw [zip_at (List.getElem?_eq_getElem hi1) (List.getElem?_eq_getElem hi2)]
      have := sr1.put (c := .lst ((zipD ds es).take i ++ [.tup [ds[i], es[i]]])) tk2 ⟨_, upd_same, (rw_.append (.cons rt .nil)).keep tk2⟩
      rw [sto_twice] at this
      exact this
    · exact ⟨us, (squ0.keep tk1).keep tk2, (ru.keep tk1).keep tk2⟩
    · exact st'.upd e hqf
    · rw [upd_ne (fun e => hqf (by rw [← e]; exact hc))]; exact (fp' c hc).1
end
section
variable {X : Cx} {Z : Nm} {pins : List (Addr × Obj)} {σ : St} {ds es : List D}
theorem hint_zip {prog : Program} {w : World} {A : Around} {E : Value → Shared → Prop} {s : Shared} {z : Addr} {Q : Bool → Shared → Prop} (hT : s.TypeIs (.ref z) "zip") (h : Q true s) : wpAny (model prog w) A (Builtin.List.listLengthHint (.ref z)) Q E s := by
  unfold Builtin.List.listLengthHint
  refine wpAny_bind (wpAny_specialOf hT zip_no_len ?_)
  show wpAny _ A (specialOf (Value.ref z) (Str.ofString "__length_hint__") >>= _) _ _ _
  refine wpAny_bind (wpAny_specialOf hT zip_no_hint ?_)
  exact wpAny_pure h
theorem ZSt.ty {z TI TO i1 i2 a b : Addr} {i : Nat} {s : Shared} (st : ZSt z TI TO i1 i2 a b i s.heap) : s.TypeIs (.ref z) "zip" := by
  obtain ⟨_, _, _, _, hz⟩ := st
  rcases hz with hz | ⟨_, _, _, hz, _⟩ <;> exact ⟨_, hz, rfl⟩
theorem ZSt.self {prog : Program} {w : World} {A : Around} {E : Value → Shared → Prop} {z TI TO i1 i2 a b : Addr} {s : Shared} {Q : Value → Shared → Prop} (hz : IsZip s.heap z TI TO .none) (h : Q (.ref z) s) : wpAny (model prog w) A (pyIter (.ref z)) Q E s := wpAny_pyIter_zip hz h
/-- list.extend of a fresh zip -/
theorem zip_extend {A1 : Around} {Rs : Result → Shared → Prop} {H0 : Hp} {S0 : Sto} {z TI TO i1 i2 a b q : Addr} {H : Hp} {s : Shared} (hK : Z.K = X.K) (hh : A1.in1.handled = none) (D : ZipApart z TI TO i1 i2 a b) (hq0 : S0 q = none) (hqf : q ∉ [z, TI, TO, i1, i2]) (hz : (zipD ds es).length < sizeLine)
    (hzip : IsZip s.heap z TI TO .none) (L : ZL X Z pins σ z TI TO i1 i2 a b q ds es H0 S0 0 H s)
    (hR : ∀ H s, Inv X pins σ H s → SR Z (S0.upd q (.lst (zipD ds es))) H → TK H0 H → Rs (.ok (.ret .none)) s) :
    wpAny (model X.prog X.w) A1.in1 (Builtin.List.listExtendWith (.ref q) (.ref z) .none)
      (fun fin s' => match fin with | .done f => Rs (.ok f) s' | .again c' => c'.quiet = true ∧ codeAny (model X.prog X.w) A1 c' Rs s') (fun e s' => Rs (.error e) s') s := by
  have hne : q ≠ z := fun e => hqf (by rw [e]; simp)
  unfold Builtin.List.listExtendWith
  refine wpAny_bind (wpAny_typeOf L.st.ty ?_)
  have h1 : Builtin.List.listSameRef (.ref q) (.ref z) = false := by simp [Builtin.List.listSameRef, hne]
  have h2 : (Value.type "zip" == Value.type "list") = false := by decide
  have h3 : (Value.type "zip" == Value.type "tuple") = false := by decide
  simp only [h1, h2, h3, Bool.or_false, Bool.false_eq_true, if_false]
  refine wpAny_bind (wpAny_pyIter_zip hzip ?_)
  refine wpAny_bind (wpAny_holding (hint_zip L.st.ty ?_))
  have hS := L.sr q _ Sto.upd_same
  rw [List.take_zero] at hS
  obtain ⟨ws, hqH, rw_⟩ := hS
  cases rw_
  refine wpAny_ite_split (fun _ => ?_) (fun _ => wpAny_pure ⟨plainId_quiet PySem.F.plain_extend_loop _, ext_loop hK hh D hq0 hqf hz hR _ 0 H s rfl (Nat.zero_le _) L⟩)
  refine wpAny_bind (wpAny_rule ?_)
  refine wpAny_bind ?_
  show wpAny _ _ (updateSeq q (·.push .none) >>= fun _ => updateSeq q (·.pop)) _ _ _
  obtain ⟨z3, its, k3, r3, hl3, e3⟩ := L.inv.lstM hqH
  cases r3
  refine wpAny_bind (wpAny_updateSeq e3 rfl ?_)
  have I2 := L.inv.lset (f := (·.push Value.none)) (its' := [Value.none]) (ys := [.non]) (t' := s.toks) hqH e3 (by simp) (.cons rfl .nil) (by rw [List.length_singleton, sizeLine_eq]; decide)
  obtain ⟨z4, its4, k4, r4, hl4, e4⟩ := I2.lstM upd_same
  obtain ⟨u4, rfl, ru4⟩ := r4.one
  refine wpAny_updateSeq e4 rfl ?_ (by show 1 ≤ sizeLine; rw [sizeLine_eq]; decide) (by show 0 ≤ sizeLine + 1; exact Nat.zero_le _)
  have I3 := I2.lset (f := (·.pop)) (its := [u4]) (its' := []) (ys := []) (t' := s.toks) upd_same e4 (by rfl) .nil (Nat.zero_le _)
  rw [upd_upd] at I3
  have hH : upd H q (.lst []) = H := by
    funext b
    by_cases hb : b = q
    · rw [hb, upd_same, hqH]
    · rw [upd_ne hb]
  rw [hH] at I3
  refine wpAny_pure ⟨plainId_quiet PySem.F.plain_extend_loop _, ext_loop hK hh D hq0 hqf hz hR _ 0 H _ rfl (Nat.zero_le _) ⟨I3, L.sr, L.tk, L.ra, L.tb, (L.st.upd e3 hqf).upd e4 hqf, L.fp⟩⟩
end
/-- list(zip(a, b)) of a list and a tuple -/
def tLZ (Z : Nm) (K : PySem.W.Frag) (ta : TA) : TE := fun σ H Q => ta σ H fun vs H1 => ∃ (a b : Addr) (ds es : List D) (S : Sto), vs = [.ref a, .ref b] ∧ SR Z S H1 ∧ rd S a = some ds ∧ (∃ us, TupAt K H1 b us ∧ RDs Z H1 es us) ∧ (zipD ds es).length < sizeLine ∧
  ∀ q H', S q = none → TK H1 H' → SR Z (S.upd q (.lst (zipD ds es))) H' → Q (.ref q) H'
theorem pe_lzip {X : Cx} {Z : Nm} {e e2 : Expr} {ta : TA} {p p2 pos pos2 : Pos} (hK : Z.K = X.K) (hc : X.calm = true) (hg : Gl X "list") (hm : X.mg "list" = none) (hg2 : Gl X "zip") (hm2 : X.mg "zip" = none) (ha : PA X [e, e2] ta)
    (hs : starEach [e, e2] X.env = (false, eval e X.env) :: starEach [e2] X.env) (hpl : (backTo pos2 (starEach [e2] X.env)).any (·.1) = false) :
    PE X (.Call (.Name "list" p) [.Call (.Name "zip" p2) [e, e2] [] pos2] [] pos) (tLZ Z X.K ta) := by
  refine ⟨fun pins s σ H Q I h => ?_⟩
  refine Call_ (ld_blt I hg hm PyProof.Rows.boot_list ?_)
  refine PyProof.Rows.callWith_type1 (PyProof.Rows.args_cons ?_ rfl) rfl rfl
  refine Call_ (ld_blt I hg2 hm2 PyProof.Rows.boot_zip (PyProof.Rows.callWith_type1 (thn (ha.run pos2 pins s σ H _ I h) fun us s1 ⟨vs, H1, I1, r1, q1⟩ => ?_) hs hpl))
  obtain ⟨a, b, ds, es, S, ex, sr, ra, ⟨ws, tb, ru⟩, hz, q1⟩ := q1
  subst ex
  cases r1 with
  | cons r rr =>
    cases rr with
    | cons r' rr =>
      cases rr
      cases r
      cases r'
      obtain ⟨xs, hqx, rx⟩ := rdAt (K := X.K) sr ra
      obtain ⟨its, rv, p1, _⟩ := I1.list hqx
      obtain ⟨its2, rv2, p2, _⟩ := I1.tuple tb.sq
      obtain ⟨o2, ho2, _⟩ := id p2
      have fresh5 : ∀ c, c ∈ [s1.heap.objs.size + 4, s1.heap.objs.size + 2, s1.heap.objs.size + 3, s1.heap.objs.size, s1.heap.objs.size + 1] → FpOk X pins H1 c := fun c hcm => by
        have e' : c = s1.heap.objs.size + 4 ∨ c = s1.heap.objs.size + 2 ∨ c = s1.heap.objs.size + 3 ∨ c = s1.heap.objs.size ∨ c = s1.heap.objs.size + 1 := by simpa using hcm
        have hle : s1.heap.objs.size ≤ c := by
          rcases e' with z | z | z | z | z
          · rw [z]; exact Nat.le_add_right _ _
          · rw [z]; exact Nat.le_add_right _ _
          · rw [z]; exact Nat.le_add_right _ _
          · rw [z]; exact Nat.le_refl _
          · rw [z]; exact Nat.le_add_right _ _
        exact I1.fpOk hle (I1.hok.fresh hle)
      refine call_zip p1.isList (show s1.heap.IsTuple b its2.toArray from p2) fun h' hzp hTI hTO h1 h2 hsz hk => ?_
      have I2 : Inv X pins σ H1 { s1 with heap := h' } := I1.kept (t' := s1.toks) hk
      have D : ZipApart (s1.heap.objs.size + 4) (s1.heap.objs.size + 2) (s1.heap.objs.size + 3) s1.heap.objs.size (s1.heap.objs.size + 1) a b := PySem.W.ktu_apart s1.heap.objs.size a b p1.lt (Heap.lt_size ho2)
      refine PyProof.Rows.args_nil ?_
      refine callType_codes (Q₁ := fun obj s₁ => obj = .ref h'.objs.size ∧ s₁ = { s1 with heap := h'.push { cls := .type "list", data := .seq #[] } }) PySem.F.called_list (PySem.F.typeCall_list_1 _) PySem.F.entry_list_init
        (code_list_new _ ⟨rfl, rfl⟩) fun obj s₁ h₁ => ?_
      obtain ⟨rfl, rfl⟩ := h₁
      have hS : (h'.push { cls := .type "list", data := .seq #[] }).get? h'.objs.size = some { cls := .type "list", data := .seq #[] } := Heap.get?_push_size _ rfl
      refine ⟨⟨_, hS, rfl⟩, PySem.F.args_list_init_2 _ _, ?_⟩
      have fr : H1 h'.objs.size = none := I2.hok.fresh (Nat.le_refl _)
      have I3 : Inv X pins σ (upd H1 h'.objs.size (.lst [])) { s1 with heap := h'.push { cls := .type "list", data := .seq #[] } } := I2.lnew (its := []) (t' := s1.toks) .nil (Nat.zero_le _)
      show wpAny _ _ (do let old ← Builtin.List.listItems (.ref h'.objs.size); Builtin.List.listUpdate (.ref h'.objs.size) (fun _ => #[]); letGo old.toList.reverse; Builtin.List.listExtendWith (.ref h'.objs.size) (.ref (s1.heap.objs.size + 4)) .none) _ _ _
      refine wpAny_bind ?_
      unfold Builtin.List.listItems
      refine wpAny_bind (wpAny_seqItems hS rfl (wpAny_pure ?_))
      show wpAny _ _ (updateSeq h'.objs.size (fun _ => #[]) >>= fun _ => letGo (#[] : Array Value).toList.reverse >>= fun _ => Builtin.List.listExtendWith (.ref h'.objs.size) (.ref (s1.heap.objs.size + 4)) .none) _ _ _
      refine wpAny_bind (wpAny_updateSeq hS rfl ?_)
      have I4 := I3.lset (f := fun _ => #[]) (its := []) (its' := []) (ys := []) (t' := s1.toks) upd_same hS rfl .nil (Nat.zero_le _)
      rw [upd_upd] at I4
      refine wpAny_bind (wpAny_letGo ?_)
      have tk0 : TK H1 (upd H1 h'.objs.size (.lst [])) := TK.new fr
      have hq0 : S h'.objs.size = none := sr.free fr
      have hqf : h'.objs.size ∉ [s1.heap.objs.size + 4, s1.heap.objs.size + 2, s1.heap.objs.size + 3, s1.heap.objs.size, s1.heap.objs.size + 1] := by
        rw [hsz]
        simp only [List.mem_cons, List.not_mem_nil, or_false]
        omega
      have up : ∀ c o, c ≠ h'.objs.size → h'.get? c = some o → ((h'.push { cls := .type "list", data := .seq #[] }).update h'.objs.size (Obj.mapSeq fun _ => (#[] : Array Value))).get? c = some o := fun c o hcq ho =>
        (Heap.get?_update_other _ _ (Ne.symm hcq)).trans (Heap.get?_push_of_some _ ho)
      have n4 : s1.heap.objs.size + 4 ≠ h'.objs.size := by rw [hsz]; omega
      have n3 : s1.heap.objs.size + 3 ≠ h'.objs.size := by rw [hsz]; omega
      have n2 : s1.heap.objs.size + 2 ≠ h'.objs.size := by rw [hsz]; omega
      have n1 : s1.heap.objs.size + 1 ≠ h'.objs.size := by rw [hsz]; omega
      have n0 : s1.heap.objs.size ≠ h'.objs.size := by rw [hsz]; omega
      refine zip_extend (A1 := X.A.in1) (Rs := wants (fun r s₂ => r = .none ∧ EP X pins σ Q (.ref h'.objs.size) s₂) X.xe) hK (I1.ok.hd hc) D hq0 hqf hz (up _ _ n4 hzp) ⟨I4, ?_, tk0, ra, ⟨ws, tb.keep tk0, ru.keep tk0⟩, ⟨up _ _ n2 hTI, h1.at fun o q => up _ _ n0 q, h2.at fun o q => up _ _ n1 q, ⟨_, _, up _ _ n3 hTO⟩, .inl (up _ _ n4 hzp)⟩, fun c hcm => ⟨?_, (fresh5 c hcm).2⟩⟩ ?_
      · rw [List.take_zero]
        exact sr.put (c := .lst []) tk0 ⟨[], upd_same, .nil⟩
      · rw [upd_ne (fun e => hqf (by rw [← e]; exact hcm))]; exact (fresh5 c hcm).1
      · exact fun H' s' I' sr' tk' => ⟨rfl, .ref h'.objs.size, H', I', rfl, q1 _ _ hq0 tk' sr'⟩
/-! ### t += u of tuples -/
theorem noI_tuple_add : typeLookup (.type "tuple") (dunderI "add") = pure none := by rw [typeLookup_type, builtinLookup_eq_fast]; kernel_rfl
section
variable {prog : Program} {w : World} {A : Around} {E : Value → Shared → Prop} {s : Shared}
theorem iconcat_meets {T id : String} {B : Builtin} {a b : Value} {S : PySem.Spec} {Q : Value → Shared → Prop} (ha : s.TypeIs a T) (hb : s.TypeIs b T) (hno : typeLookup (.type T) (dunderI "add") = pure none)
    (hfill : fillsNumberSlot (.type T) "add" = pure false) (hseq : seqSlot? (.type T) "__add__" = pure (some (.builtin id))) (slot : Slot T "__add__" id)
    (entry : entryFor table id = some B) (args : argsOk id ⟨[a, b], []⟩) (g : Meets (B ⟨[a, b], []⟩) S) (h : S A (wants Q E) s) : wpAny (model prog w) A (inplaceOp .Add a b) Q E s :=
  wpAny_inplaceOp_concat ha hb hno hfill hseq (call_meets slot ha entry args g h)
end
section
open HT
variable {prog : Program} {w : World} {A : Around} {E : Value → Shared → Prop} {s : Shared}
theorem icat_tup0 {t b : Addr} {ws : List Value} {Q : Value → Shared → Prop} (ht : IsTup s.heap t ([] : List Value).toArray) (hb : IsTup s.heap b ws.toArray) (h : Q (.ref b) s) : wpAny (model prog w) A (inplaceOp .Add (.ref t) (.ref b)) Q E s := by
  obtain ⟨⟨cls, dd, data, sl⟩, ho, hc, n, hd⟩ := id ht
  obtain ⟨⟨cls2, dd2, data2, sl2⟩, ho2, hc2, n2, hd2⟩ := id hb
  simp only at hc hd hc2 hd2
  subst hc hd hc2 hd2
  exact iconcat_meets ⟨_, ho, rfl⟩ ⟨_, ho2, rfl⟩ noI_tuple_add noFill_tuple_add seq_tuple_add PySem.F.slot_tuple_add PySem.F.entry_tuple_add (PySem.F.args_tuple_add_2 _ _)
    (tuple_addW0 t b ([] : List Value).toArray ws.toArray n n2 dd dd2 sl sl2 (by simp)) ⟨ho, ho2, h⟩
theorem icat_tup {t b : Addr} {vs ws : List Value} {Q : Value → Shared → Prop} (ht : IsTup s.heap t vs.toArray) (hb : IsTup s.heap b ws.toArray) (hv : vs ≠ [])
    (h1 : ws = [] → Q (.ref t) s) (h2 : ws ≠ [] → Q (.ref s.heap.objs.size) { s with heap := s.heap.push { cls := .type "tuple", data := .seq (vs ++ ws).toArray } })
    (hsz : vs.length + ws.length ≤ sizeLine) : wpAny (model prog w) A (inplaceOp .Add (.ref t) (.ref b)) Q E s := by
  obtain ⟨⟨cls, dd, data, sl⟩, ho, hc, n, hd⟩ := id ht
  obtain ⟨⟨cls2, dd2, data2, sl2⟩, ho2, hc2, n2, hd2⟩ := id hb
  simp only at hc hd hc2 hd2
  subst hc hd hc2 hd2
  have e : vs.toArray ++ ws.toArray = (vs ++ ws).toArray := by simp
  by_cases hw : ws = []
  · exact iconcat_meets ⟨_, ho, rfl⟩ ⟨_, ho2, rfl⟩ noI_tuple_add noFill_tuple_add seq_tuple_add PySem.F.slot_tuple_add PySem.F.entry_tuple_add (PySem.F.args_tuple_add_2 _ _)
      (tuple_addW1 t b vs.toArray ws.toArray n n2 dd dd2 sl sl2 (by simpa using hv) (by simp [hw])) ⟨ho, ho2, h1 hw⟩
  · refine iconcat_meets ⟨_, ho, rfl⟩ ⟨_, ho2, rfl⟩ noI_tuple_add noFill_tuple_add seq_tuple_add PySem.F.slot_tuple_add PySem.F.entry_tuple_add (PySem.F.args_tuple_add_2 _ _)
      (tuple_addW2 t b vs.toArray ws.toArray n n2 dd dd2 sl sl2 (by simpa using hv) (by simpa using hw) (by rw [List.size_toArray, List.size_toArray]; exact hsz)) ⟨ho, ho2, ?_⟩
    rw [e]
    exact h2 hw
end
theorem iop_catA {X : Cx} : OpR X (inplaceOp .Add) (rCatA X.K) := by
  intro pins s σ H x y v u Q I rx ry h
  obtain ⟨a, b, xs, ys, rfl, rfl, ha, hb, hz, q0, q1, q2⟩ := h
  cases rx
  cases ry
  obtain ⟨its, r1, p1, _⟩ := I.tuple ha
  obtain ⟨its2, r2, p2, _⟩ := I.tuple hb
  by_cases hx : xs = []
  · subst hx
    cases r1
    exact icat_tup0 p1 p2 ⟨.ref b, H, I, rfl, q0 rfl⟩
  · refine icat_tup p1 p2 (fun z => hx (r1.nil_iff.mp z)) (fun z => ⟨.ref a, H, I, rfl, q1 hx (r2.nil_iff.mp z)⟩) (fun z => ?_) (by rw [← r1.length, ← r2.length]; exact hz)
    refine ⟨.ref s.heap.objs.size, _, I.laid (t' := s.toks) (o := .tup (xs ++ ys)) (fun b ob q => Heap.get?_push_of_some _ q) (Nat.le_refl _) ?_, rfl, q2 hx (fun w => z (r2.nil_iff.mpr w)) _ (I.hok.fresh (Nat.le_refl _))⟩
    exact ⟨by rw [List.length_append]; exact hz, _, r1.append r2, IsTup.new _ _⟩
end ZM
end Mini
end L2
/-! Mini: a sign times a number; repr of a bool -/
namespace L2
namespace Mini
namespace ZM
open PySem PySem.Spec PyProof.Rows
section
variable {X : Cx}
theorem st_mul1 (c : Nat) (k : Int) : Txt.mul (st [c]) k = st (List.replicate k.toNat c) := by
  refine PySem.Str.ext' (Array.toList_inj.mp ?_)
  have := mul_one_list c k
  show (Txt.mul (st [c]) k).cps.toList = _
  rw [show st [c] = (⟨#[c]⟩ : Str) from rfl, this]
  simp [st]
theorem op_mul_s1 : OpR X (binaryOp .Mult) (fun x y H Q => ∃ c k, x = V.str (st [c]) ∧ y = .int k ∧ 0 ≤ k ∧ k ≤ 1000000 ∧ Q (.str (st (List.replicate k.toNat c))) H) := by
  intro pins s σ H x y v u Q I rx ry h
  obtain ⟨c, k, rfl, rfl, h0, h1, q⟩ := h
  obtain ⟨t, rfl⟩ := rx
  obtain ⟨t2, rfl⟩ := ry
  have hl : (st [c]).length = 1 := by simp [st_length]
  refine PySem.SB.mul (x := st [c]) ⟨?_, fun h _ => ?_, fun h _ => ?_⟩ fun t' k' => ?_
  · rw [decide_eq_false (by omega), decide_eq_false (by omega)] <;> rfl
  · rw [hl]
    have : (1 : Int) ≤ (2 ^ 63 - 1) / k := by
      refine Int.le_ediv_of_mul_le (by omega) (by omega)
    omega
  · rw [hl]
    exact decide_eq_false (by rw [sizeLine_eq]; omega)
  · rw [st_mul1]
    exact ⟨.str _, H, I.tok _, ⟨_, rfl⟩, q⟩
theorem call_repr_bl : CallR X (.builtin "repr") (fun xs H Q => ∃ b, xs = [.bl b] ∧ Q (.str (if b then "True" else "False")) H) := by
  intro pins s σ H xs us Q I r h
  obtain ⟨b, rfl, q⟩ := h
  obtain ⟨u, rfl, rfl⟩ := vals1 r
  exact PySem.P.repr_of_bool ⟨.str _, H, I.tok _, ⟨_, rfl⟩, q⟩
end
end ZM
end Mini
end L2
namespace L2
namespace Mini
open PySem PySem.Spec PyProof.Rows
section
variable {X : Cx} {Z : Nm} {S : Sto} {H : Hp} {Qa : QD} {Q : VK}
/-! ### keys of dicts -/
theorem RK.val : ∀ {kvs : List (Ky × D)} {gs : List (Key × V)}, RK Z H kvs gs → ∀ k : Ky, (dget kvs k = none ∧ valV gs (kyS k) = none) ∨ ∃ d v, dget kvs k = some d ∧ valV gs (kyS k) = some v ∧ RD Z H d v
  | _, _, .nil, k => .inl ⟨rfl, rfl⟩
  | _, _, .cons (k := k0) (d := d) (v := v) (ks := ks) (gs := gs) r t, k => by
    by_cases e : k0 = k
    · subst e
      exact .inr ⟨d, v, by simp [dget], valV_pos rfl, r⟩
    · have e2 : ¬ (kyS k0, v).1 = kyS k := fun q => e (kyS_inj q)
      rw [valV_neg e2]
      have h1 : dget ((k0, d) :: ks) k = dget ks k := by simp [dget, List.find?_cons, e]
      rw [h1]
      exact RK.val t k
theorem RK.length : ∀ {kvs : List (Ky × D)} {gs : List (Key × V)}, RK Z H kvs gs → kvs.length = gs.length
  | _, _, .nil => rfl
  | _, _, .cons _ t => congrArg Nat.succ (RK.length t)
theorem RK.anyk : ∀ {kvs : List (Ky × D)} {gs : List (Key × V)}, RK Z H kvs gs → ∀ k : Ky, (kvs.any fun p => decide (p.1 = k)) = gs.any fun p => decide (p.1 = kyS k)
  | _, _, .nil, k => rfl
  | _, _, .cons (k := k0) r t, k => by
    rw [List.any_cons, List.any_cons, RK.anyk t k]
    by_cases e : k0 = k
    · subst e; simp
    · have e2 : ¬ kyS k0 = kyS k := fun q => e (kyS_inj q)
      simp [e, e2]
theorem RK.mapk {d : D} {v : V} (rd : RD Z H d v) (k : Ky) : ∀ {kvs : List (Ky × D)} {gs : List (Key × V)}, RK Z H kvs gs →
    RK Z H (kvs.map fun p => if p.1 = k then (p.1, d) else p) (gs.map fun p => if p.1 = kyS k then (p.1, v) else p)
  | _, _, .nil => .nil
  | _, _, .cons (k := k0) (d := d0) (v := v0) r t => by
    rw [List.map_cons, List.map_cons]
    by_cases e : k0 = k
    · subst e
      rw [if_pos rfl, if_pos rfl]
      exact .cons rd (RK.mapk rd k0 t)
    · have e2 : ¬ kyS k0 = kyS k := fun q => e (kyS_inj q)
      rw [if_neg e, if_neg e2]
      exact .cons r (RK.mapk rd k t)
theorem RK.snoc {d : D} {v : V} (rd : RD Z H d v) (k : Ky) : ∀ {kvs : List (Ky × D)} {gs : List (Key × V)}, RK Z H kvs gs → RK Z H (kvs ++ [(k, d)]) (gs ++ [(kyS k, v)])
  | _, _, .nil => .cons rd .nil
  | _, _, .cons r t => .cons r (RK.snoc rd k t)
theorem RK.put {d : D} {v : V} (rd : RD Z H d v) (k : Ky) {kvs : List (Ky × D)} {gs : List (Key × V)} (r : RK Z H kvs gs) : RK Z H (dput kvs k d) (putK gs (kyS k) v) := by
  unfold dput putK
  rw [r.anyk k]
  split
  · exact r.mapk rd k
  · exact r.snoc rd k
theorem RF.get (f : Nat) (hf : f < Z.nf) : ∀ {fs : List (Nat × D)} {gs : List (Str × V)} {d : D}, RF Z H fs gs → fget fs f = some d → ∃ v, gs.lookup (Z.fld f) = some v ∧ RD Z H d v
  | _, _, _, .nil, e => by cases e
  | _, _, d, .cons (i := i) (v := v) (gs := gs) l r t, e => by
    unfold fget at e
    by_cases q : f = i
    · subst q
      rw [if_pos rfl] at e
      cases e
      refine ⟨v, ?_, r⟩
      rw [List.lookup_cons]; simp
    · rw [if_neg q] at e
      obtain ⟨u, h1, h2⟩ := RF.get f hf t e
      refine ⟨u, ?_, h2⟩
      rw [List.lookup_cons]
      have hb : (Z.fld f == Z.fld i) = false := beq_eq_false_iff_ne.mpr fun z => q (Z.inj _ _ hf l z)
      rw [hb]; exact h1
theorem RF.put (f : Nat) (hf : f < Z.nf) {d : D} {v : V} (rd : RD Z H d v) : ∀ {fs : List (Nat × D)} {gs : List (Str × V)}, RF Z H fs gs → RF Z H (fput f d fs) (putF (Z.fld f) v gs)
  | _, _, .nil => .cons hf rd .nil
  | _, _, .cons (i := i) l r t => by
    unfold fput putF
    by_cases q : i = f
    · subst q
      rw [if_pos rfl, if_pos rfl]
      exact .cons l rd t
    · rw [if_neg q, if_neg fun z => q (Z.inj _ _ l hf z)]
      exact .cons l r (RF.put f hf rd t)
theorem RF.length : ∀ {fs : List (Nat × D)} {gs : List (Str × V)}, RF Z H fs gs → fs.length = gs.length
  | _, _, .nil => rfl
  | _, _, .cons _ _ t => congrArg Nat.succ (RF.length t)
/-- no method's name is an attribute -/
theorem RF.none (m : Str) (hm : ∀ i, i < Z.nf → Z.fld i ≠ m) : ∀ {fs : List (Nat × D)} {gs : List (Str × V)}, RF Z H fs gs → gs.lookup m = Option.none
  | _, _, .nil => rfl
  | _, _, .cons (i := i) l r t => by
    rw [List.lookup_cons]
    have hb : (m == Z.fld i) = false := beq_eq_false_iff_ne.mpr fun z => hm i l z.symm
    rw [hb]; exact RF.none m hm t
/-! ### in -/
theorem op_inDict (hu : X.A.units + 1 < cLine) : OpR X (compareOp .In) (fun x y H Q => ∃ a o, y = .ref a ∧ DGet H a x o ∧ Q (.bl o.isSome) H) := by
  intro pins s σ H x y v u Q I rx ry h
  obtain ⟨a, o, rfl, g, q⟩ := h
  cases ry
  exact d_in hu I g rx fun s' I' => ⟨.bl _, H, I', rfl, q⟩
theorem op_notInDict (hu : X.A.units + 1 < cLine) : OpR X (compareOp .NotIn) (fun x y H Q => ∃ a o, y = .ref a ∧ DGet H a x o ∧ Q (.bl (!o.isSome)) H) := by
  intro pins s σ H x y v u Q I rx ry h
  obtain ⟨a, o, rfl, g, q⟩ := h
  cases ry
  exact d_notIn hu I g rx fun s' I' => ⟨.bl _, H, I', rfl, q⟩
theorem op_inR (hu : X.A.units + 190 < cLine) : OpR X (compareOp .In) (fun x y H Q => ∃ d ds, Dp X.K H x d ∧ (Dp X.K H y (.list ds) ∨ Dp X.K H y (.tuple ds)) ∧ d.canLay0 = true ∧ PyData.canLayAll0 ds = true ∧ d.depth ≤ 180 ∧ Q (.bl (ds.any fun z => PyData.eqv z d)) H) := by
  intro pins s σ H x y v u Q I rx ry h
  obtain ⟨d, ds, hd, he, sd, se, hr, q⟩ := h
  obtain ⟨as, r1⟩ := Dp.reads I d x v hd rx
  have hm : min (PyData.depthAll ds) d.depth ≤ d.depth := Nat.min_le_right _ _
  rcases he with he | he
  · obtain ⟨bs, r2⟩ := Dp.reads I (.list ds) y u he ry
    exact SeqAt.in_list_reads r2 r1 se sd (by omega) ⟨.bl _, H, I, rfl, q⟩
  · obtain ⟨bs, r2⟩ := Dp.reads I (.tuple ds) y u he ry
    exact SeqAt.in_tuple_reads r2 r1 se sd (by omega) ⟨.bl _, H, I, rfl, q⟩
theorem op_notInR (hu : X.A.units + 190 < cLine) : OpR X (compareOp .NotIn) (fun x y H Q => ∃ d ds, Dp X.K H x d ∧ (Dp X.K H y (.list ds) ∨ Dp X.K H y (.tuple ds)) ∧ d.canLay0 = true ∧ PyData.canLayAll0 ds = true ∧ d.depth ≤ 180 ∧ Q (.bl (!ds.any fun z => PyData.eqv z d)) H) := by
  intro pins s σ H x y v u Q I rx ry h
  obtain ⟨d, ds, hd, he, sd, se, hr, q⟩ := h
  obtain ⟨as, r1⟩ := Dp.reads I d x v hd rx
  have hm : min (PyData.depthAll ds) d.depth ≤ d.depth := Nat.min_le_right _ _
  rcases he with he | he
  · obtain ⟨bs, r2⟩ := Dp.reads I (.list ds) y u he ry
    exact SeqAt.notIn_list_reads r2 r1 se sd (by omega) ⟨.bl _, H, I, rfl, q⟩
  · obtain ⟨bs, r2⟩ := Dp.reads I (.tuple ds) y u he ry
    exact SeqAt.notIn_tuple_reads r2 r1 se sd (by omega) ⟨.bl _, H, I, rfl, q⟩
theorem getK {k : Ky} {kvs : List (Ky × D)} {gs : List (Key × V)} {a : Addr} (e : H a = some (.dK gs)) (r : RK Z H kvs gs) (k : Ky) : ∃ o, DGet H a (kV (kyS k)) o ∧ o.isSome = (dget kvs k).isSome := by
  refine ⟨_, DGet.k e, ?_⟩
  rcases r.val k with ⟨h1, h2⟩ | ⟨d, v, h1, h2, _⟩ <;> rw [h1, h2] <;> rfl
def inOp (neg : Bool) : CmpOp := if neg then .NotIn else .In
theorem in_ok (hK : Z.K = X.K) (hu : X.A.units + 190 < cLine) {neg : Bool} {x y : D} {v u : V} (sr : SR Z S H) (rx : RD Z H x v) (ry : RD Z H y u) (h : inW x y neg S Qa) (q : Kq Z H Qa Q) : rAny X (compareOp (inOp neg)) v u H Q := by
  have lst : ∀ {ds : List D} {a : Addr}, rd S a = some ds → ∀ r, inW.InL S x ds r → Qa (.bl (neg ^^ r)) S → rAny X (compareOp (inOp neg)) v (.ref a) H Q := fun {ds a} e r ⟨p, ps, p1, p2, hd, er⟩ h => by
    subst er
    cases neg with
    | false => exact ⟨_, op_inR hu, p, ps, p1.dp hK sr rx, .inl (PD.dp hK sr (.ref e p2) .ref), p1.lay, p2.lay, hd, q.pure sr .bl (by simpa using h)⟩
    | true => exact ⟨_, op_notInR hu, p, ps, p1.dp hK sr rx, .inl (PD.dp hK sr (.ref e p2) .ref), p1.lay, p2.lay, hd, q.pure sr .bl (by simpa using h)⟩
  have tup : ∀ {ds : List D}, RD Z H (.tup ds) u → ∀ r, inW.InL S x ds r → Qa (.bl (neg ^^ r)) S → rAny X (compareOp (inOp neg)) v u H Q := fun {ds} e r ⟨p, ps, p1, p2, hd, er⟩ h => by
    subst er
    cases neg with
    | false => exact ⟨_, op_inR hu, p, ps, p1.dp hK sr rx, .inr (PD.dp hK sr (.tup p2) e), p1.lay, p2.lay, hd, q.pure sr .bl (by simpa using h)⟩
    | true => exact ⟨_, op_notInR hu, p, ps, p1.dp hK sr rx, .inr (PD.dp hK sr (.tup p2) e), p1.lay, p2.lay, hd, q.pure sr .bl (by simpa using h)⟩
  have dct : ∀ {kvs : List (Ky × D)} {a : Addr} (k : Ky), S a = some (.dct kvs) → v = kV (kyS k) → Qa (.bl (neg ^^ (dget kvs k).isSome)) S → rAny X (compareOp (inOp neg)) v (.ref a) H Q := fun {kvs a} k e ev h => by
    obtain ⟨gs, hg, r⟩ := sr a _ e
    obtain ⟨o, g, eo⟩ := getK (k := k) hg r k
    subst ev
    rw [← eo] at h
    cases neg with
    | false => exact ⟨_, op_inDict (by omega), a, o, rfl, g, q.pure sr .bl (by simpa using h)⟩
    | true => exact ⟨_, op_notInDict (by omega), a, o, rfl, g, q.pure sr .bl (by simpa using h)⟩
  unfold inW at h
  split at h
  · rename_i c b
    cases rx; cases ry
    have e : (b.contains c) = decide (c ∈ (st b).cps.toList) := by rw [st_cps]; simp
    rw [e] at h
    cases neg with
    | false => exact ⟨_, op_in_sign, c, st b, rfl, rfl, q.pure sr .bl (by simpa using h)⟩
    | true => exact ⟨_, op_notIn_sign, c, st b, rfl, rfl, q.pure sr .bl (by simpa using h)⟩
  · rename_i a _
    cases ry
    split at h
    · rename_i kvs e
      split at h
      · cases rx; exact dct (.inl _) e rfl h
      · cases rx; exact dct (.inr _) e rfl h
      · exact h.elim
    · rename_i ds e
      obtain ⟨r, h1, h2⟩ := h
      exact lst (by unfold rd; rw [e]) r h1 h2
    · rename_i ds e
      obtain ⟨r, h1, h2⟩ := h
      exact lst (by unfold rd; rw [e]) r h1 h2
    · exact h.elim
  · obtain ⟨r, h1, h2⟩ := h
    exact tup ry r h1 h2
  · exact h.elim
/-! ### comparisons -/
def copOf : Cop → CmpOp
  | .eq => .Eq | .ne => .NotEq | .lt => .Lt | .le => .LtE | .gt => .Gt | .ge => .GtE | .is_ => .Is | .isnot => .IsNot | .in_ => .In | .notin => .NotIn
theorem cmp_ok (hK : Z.K = X.K) (hu : X.A.units + 190 < cLine) {op : Cop} {x y : D} {v u : V} (sr : SR Z S H) (rx : RD Z H x v) (ry : RD Z H y u) (h : cmpW op x y S Qa) (q : Kq Z H Qa Q) : rAny X (compareOp (copOf op)) v u H Q := by
  cases op with
  | eq => exact eq_ok hK hu sr rx ry h q
  | ne => exact ne_ok hK hu sr rx ry h q
  | lt =>
    simp only [cmpW] at h
    split at h
    · cases rx; cases ry; exact ⟨_, op_lt, _, _, rfl, rfl, q.pure sr .bl h⟩
    · exact h.elim
  | le =>
    simp only [cmpW] at h
    split at h
    · cases rx; cases ry; exact ⟨_, op_le, _, _, rfl, rfl, q.pure sr .bl h⟩
    · exact h.elim
  | gt =>
    simp only [cmpW] at h
    split at h
    · cases rx; cases ry; exact ⟨_, op_gt, _, _, rfl, rfl, q.pure sr .bl h⟩
    · exact h.elim
  | ge =>
    simp only [cmpW] at h
    split at h
    · cases rx; cases ry; exact ⟨_, op_ge, _, _, rfl, rfl, q.pure sr .bl h⟩
    · exact h.elim
  | is_ =>
    simp only [cmpW] at h
    split at h
    · cases rx; cases ry; exact ⟨_, op_isN, rfl, q.pure sr .bl (by simpa using h)⟩
    · rename_i hn
      cases ry
      refine ⟨_, op_isN, rfl, ?_⟩
      have e : decide (v = V.non) = false := decide_eq_false fun z => by subst z; cases rx; exact hn rfl
      rw [e]; exact q.pure sr .bl h
    · exact h.elim
  | isnot =>
    simp only [cmpW] at h
    split at h
    · cases rx; cases ry; exact ⟨_, op_notN, rfl, q.pure sr .bl (by simpa using h)⟩
    · rename_i hn
      cases ry
      refine ⟨_, op_notN, rfl, ?_⟩
      have e : decide (v = V.non) = false := decide_eq_false fun z => by subst z; cases rx; exact hn rfl
      rw [e]; exact q.pure sr .bl h
    · exact h.elim
  | in_ => exact in_ok (neg := false) hK hu sr rx ry h q
  | notin => exact in_ok (neg := true) hK hu sr rx ry h q
/-! ### arithmetic and the like -/
def bopOf : Bop → Operator
  | .add => .Add | .sub => .Sub | .mul => .Mult | .fdiv => .FloorDiv | .mod => .Mod | .pow => .Pow
theorem st_app (a b : List Nat) : st a ++ st b = st (a ++ b) := by
  show (Str.mk _ : Str) = Str.mk _
  simp [st]
theorem bin_ok (hK : Z.K = X.K) {op : Bop} {x y : D} {v u : V} (sr : SR Z S H) (rx : RD Z H x v) (ry : RD Z H y u) (h : binW op x y S Qa) (q : Kq Z H Qa Q) : rAny X (binaryOp (bopOf op)) v u H Q := by
  unfold binW at h
  split at h
  · cases rx; cases ry; exact ⟨_, op_add, _, _, rfl, rfl, q.pure sr .int h⟩
  · cases rx; cases ry
    exact ⟨_, op_add_str, _, _, rfl, rfl, by rw [st_length, st_length]; exact h.1, by rw [st_app]; exact q.pure sr .str h.2⟩
  · obtain ⟨hz, h⟩ := h
    cases rx with
    | tup t1 r1 => cases ry with
      | tup t2 r2 =>
        refine ⟨_, op_catA, _, _, _, _, rfl, rfl, by rw [← hK]; exact t1.sq, by rw [← hK]; exact t2.sq, by rw [← r1.length, ← r2.length]; exact hz, fun e => ?_, fun _ e => ?_, fun _ _ => ?_⟩
        · have e' := r1.nil_iff.mpr e
          subst e'
          exact q.pure sr (.tup t2 r2) (by simpa using h)
        · have e' := r2.nil_iff.mpr e
          subst e'
          exact q.pure sr (.tup t1 r1) (by simpa using h)
        · exact q.newT sr (r1.append r2) h
  · obtain ⟨xs, ys, e1, e2, hz, h⟩ := h
    cases rx; cases ry
    obtain ⟨vs, h1, r1⟩ := lstAt sr e1
    obtain ⟨us, h2, r2⟩ := lstAt sr e2
    exact ⟨_, op_cat, _, _, _, _, rfl, rfl, h1, h2, by rw [← r1.length, ← r2.length]; exact hz, q.newL sr (r1.append r2) h⟩
  · cases rx; cases ry; exact ⟨_, op_sub, _, _, rfl, rfl, q.pure sr .int h⟩
  · cases rx; cases ry; exact ⟨_, op_mul, _, _, rfl, rfl, h.1, q.pure sr .int h.2⟩
  · obtain ⟨xs, e1, k1, k2, hz, h⟩ := h
    cases rx; cases ry
    obtain ⟨vs, h1, r1⟩ := lstAt sr e1
    exact ⟨_, op_rep, _, _, _, rfl, rfl, h1, k1, k2, by rw [← r1.length]; exact hz, q.newL sr (r1.rep _) h⟩
  · obtain ⟨k0, k1, k2, hz, h⟩ := h
    cases ry
    cases rx with
    | tup t r => exact ⟨_, op_repT, _, _, _, rfl, rfl, by rw [← hK]; exact t.sq, fun e => k0 (r.nil_iff.mpr e), k1, k2, by rw [← r.length]; exact hz, q.newT sr (r.rep _) h⟩
  · cases rx; cases ry; exact ⟨_, ZM.op_mul_s1, _, _, rfl, rfl, h.1, h.2.1, q.pure sr .str h.2.2⟩
  · cases rx; cases ry; exact ⟨_, op_fdivN, _, _, rfl, rfl, ⟨h.1, h.2.1⟩, q.pure sr .int h.2.2⟩
  · cases rx; cases ry; exact ⟨_, op_modN, _, _, rfl, rfl, h.1, q.pure sr .int h.2⟩
  · cases rx; cases ry; exact ⟨_, op_pow, _, _, rfl, rfl, ⟨h.1, h.2.1, h.2.2.1⟩, q.pure sr .int h.2.2.2⟩
  · exact h.elim
theorem aug_ok (hK : Z.K = X.K) {op : Bop} {x y : D} {v u : V} (sr : SR Z S H) (rx : RD Z H x v) (ry : RD Z H y u) (h : augW op x y S Qa) (q : Kq Z H Qa Q) : rAny X (inplaceOp (bopOf op)) v u H Q := by
  unfold augW at h
  split at h
  · cases rx; cases ry; exact ⟨_, iop_add, _, _, rfl, rfl, q.pure sr .int h⟩
  · cases rx; cases ry
    exact ⟨_, iop_add_str, _, _, rfl, rfl, by rw [st_length, st_length]; exact h.1, by rw [st_app]; exact q.pure sr .str h.2⟩
  · cases rx; cases ry; exact ⟨_, iop_sub, _, _, rfl, rfl, q.pure sr .int h⟩
  · obtain ⟨hz, h⟩ := h
    cases rx with
    | tup t1 r1 => cases ry with
      | tup t2 r2 =>
        refine ⟨_, ZM.iop_catA, _, _, _, _, rfl, rfl, by rw [← hK]; exact t1.sq, by rw [← hK]; exact t2.sq, by rw [← r1.length, ← r2.length]; exact hz, fun e => ?_, fun _ e => ?_, fun _ _ => ?_⟩
        · have e' := r1.nil_iff.mpr e
          subst e'
          exact q.pure sr (.tup t2 r2) (by simpa using h)
        · have e' := r2.nil_iff.mpr e
          subst e'
          exact q.pure sr (.tup t1 r1) (by simpa using h)
        · exact q.newT sr (r1.append r2) h
  · exact h.elim
/-! ### subscripts -/
theorem ixN_lt {n : Nat} {i : Int} {j : Nat} (h : ixN n i = some j) : j < n := (ixN_seq h).2.1
theorem atI_RDs {ds : List D} {vs : List V} {i : Int} {d : D} (r : RDs Z H ds vs) (h : atI ds i = some d) : ∃ v, atI vs i = some v ∧ RD Z H d v := by
  unfold atI at h ⊢
  rw [← r.length]
  cases e : ixN ds.length i with
  | none => rw [e] at h; cases h
  | some j =>
    rw [e] at h
    exact r.get h
theorem ix_dict (hu : X.A.units + 1 < cLine) : IxR X (fun x y H Q => ∃ a v, x = .ref a ∧ DGet H a y (some v) ∧ Q v H) := by
  intro value slice pins s σ H x y v u Q I rx ry h hs
  obtain ⟨a, w', rfl, g, q⟩ := h
  cases rx
  exact tail_any (dict_typeIs I g) PySem.F.slot_dict_getitem.lookup (d_getItem hu I g ry fun w2 s' I' rw' => ⟨w', H, I', rw', q⟩) hs
theorem ix_ok (hK : Z.K = X.K) (hu : X.A.units + 190 < cLine) {x y : D} {v u : V} (sr : SR Z S H) (rx : RD Z H x v) (ry : RD Z H y u) (h : ixW x y S Qa) (q : Kq Z H Qa Q) : ixAny X v u H Q := by
  unfold ixW at h
  split at h
  · cases ry
    cases rx with
    | tup t r =>
      obtain ⟨d, e, h⟩ := h
      obtain ⟨w', e2, r2⟩ := atI_RDs r e
      exact ⟨_, ix_tup, _, _, _, _, rfl, rfl, by rw [← hK]; exact t.sq, e2, q.pure sr r2 h⟩
  · cases rx; cases ry
    obtain ⟨hz, c, e, h⟩ := h
    exact ⟨_, ix_str, _, _, c, rfl, rfl, by rw [st_length]; exact hz, by rw [st_cps]; exact e, q.pure sr (.str (l := [c])) h⟩
  · cases rx
    split at h
    · rename_i ds i e
      cases ry
      obtain ⟨d, e2, h⟩ := h
      obtain ⟨vs, sq, r⟩ := rdAt (K := X.K) sr (show rd S _ = some ds by unfold rd; rw [e])
      obtain ⟨w', e3, r2⟩ := atI_RDs r e2
      exact ⟨_, ix_list, _, _, _, _, rfl, rfl, sq, e3, q.pure sr r2 h⟩
    · rename_i ds i e
      cases ry
      obtain ⟨d, e2, h⟩ := h
      obtain ⟨vs, sq, r⟩ := rdAt (K := X.K) sr (show rd S _ = some ds by unfold rd; rw [e])
      obtain ⟨w', e3, r2⟩ := atI_RDs r e2
      exact ⟨_, ix_list, _, _, _, _, rfl, rfl, sq, e3, q.pure sr r2 h⟩
    · rename_i kvs i e
      cases ry
      obtain ⟨d, e2, h⟩ := h
      obtain ⟨gs, hg, r⟩ := sr _ _ e
      rcases r.val (.inl i) with ⟨h1, _⟩ | ⟨d', v', h1, h2, r2⟩
      · rw [h1] at e2; cases e2
      · rw [h1] at e2; cases e2
        exact ⟨_, ix_dict (by omega), _, v', rfl, by rw [← h2]; exact DGet.k (k := kyS (.inl _)) hg, q.pure sr r2 h⟩
    · rename_i kvs l e
      cases ry
      obtain ⟨d, e2, h⟩ := h
      obtain ⟨gs, hg, r⟩ := sr _ _ e
      rcases r.val (.inr l) with ⟨h1, _⟩ | ⟨d', v', h1, h2, r2⟩
      · rw [h1] at e2; cases e2
      · rw [h1] at e2; cases e2
        exact ⟨_, ix_dict (by omega), _, v', rfl, by rw [← h2]; exact DGet.k (k := kyS (.inr _)) hg, q.pure sr r2 h⟩
    · exact h.elim
  · exact h.elim
end
end Mini
end L2
namespace L2
namespace Mini
open PySem PySem.Spec PyProof.Rows
section
variable {X : Cx} {Z : Nm} {S : Sto} {H : Hp} {Qa : QD} {Q : VK}
theorem cut_RDs {ds : List D} {vs : List V} (r : RDs Z H ds vs) (lo hi : Option Int) : RDs Z H (cutD ds lo hi) (cutV vs lo hi) := by
  unfold cutD cutV
  rw [r.length]
  exact (r.drop _).take _
theorem cut_whole {α : Type} (ds : List α) (lo hi : Option Int) (h : HT.sIx ds.length 0 lo = 0 ∧ HT.sIx ds.length ds.length hi = ds.length) : cutD ds lo hi = ds := by
  unfold cutD; rw [h.1, h.2]; simp
theorem cutS_st (l : List Nat) (lo hi : Option Int) : cutS (st l) lo hi = st (cutD l lo hi) := by
  unfold cutS cutD st
  simp [Str.length]
theorem sl_ok (hK : Z.K = X.K) {x : D} {v : V} {lo hi : Option Int} (sr : SR Z S H) (rx : RD Z H x v) (h : slW x lo hi S Qa) (q : Kq Z H Qa Q) : slAny X v lo hi H Q := by
  unfold slW at h
  split at h
  · cases rx with
    | tup t r =>
      refine ⟨_, sl_tupA, _, _, rfl, by rw [← hK]; exact t.sq, fun e => ?_, fun _ => q.newT sr (cut_RDs r lo hi) h⟩
      rw [← r.length] at e
      rw [cut_whole _ _ _ e] at h
      exact q.pure sr (.tup t r) h
  · cases rx
    exact ⟨_, sl_str, _, rfl, by rw [st_length]; exact h.1, by rw [cutS_st]; exact q.pure sr .str h.2⟩
  · obtain ⟨ds, e, h⟩ := h
    cases rx
    obtain ⟨vs, sq, r⟩ := rdAt (K := X.K) sr e
    exact ⟨_, sl_list, _, _, rfl, sq, q.newL sr (cut_RDs r lo hi) h⟩
  · exact h.elim
/-! ### built-in functions -/
def biF : Bi → Value
  | .len => .builtin "len" | .int => .type "int" | .max => .builtin "max" | .min => .builtin "min" | .sum => .builtin "sum" | .all => .builtin "all" | .any => .builtin "any" | .tuple => .type "tuple" | .list => .type "list"
  | .sortset => .none | .repr => .builtin "repr" | .str => .type "str" | .abs => .builtin "abs" | .dict0 => .none | .sorted => .builtin "sorted" | .dict => .type "dict"
theorem RDs.ints : ∀ {ds : List D} {vs : List V} {ns : List Int}, RDs Z H ds vs → intsOf ds = some ns → vs = ns.map V.int
  | [], _, _, .nil, e => by cases e; rfl
  | .int i :: ds, _, ns, .cons r t, e => by
    cases r
    unfold intsOf at e
    cases q : intsOf ds with
    | none => rw [q] at e; cases e
    | some ms => rw [q] at e; cases e; rw [RDs.ints t q]; rfl
  | .non :: _, _, _, _, e => by cases e
  | .bl _ :: _, _, _, _, e => by cases e
  | .str _ :: _, _, _, _, e => by cases e
  | .tup _ :: _, _, _, _, e => by cases e
  | .ref _ :: _, _, _, _, e => by cases e
  | .fn _ :: _, _, _, _, e => by cases e
theorem RDs.bls : ∀ {ds : List D} {vs : List V} {ns : List Bool}, RDs Z H ds vs → blsOf ds = some ns → vs = ns.map V.bl
  | [], _, _, .nil, e => by cases e; rfl
  | .bl i :: ds, _, ns, .cons r t, e => by
    cases r
    unfold blsOf at e
    cases q : blsOf ds with
    | none => rw [q] at e; cases e
    | some ms => rw [q] at e; cases e; rw [RDs.bls t q]; rfl
  | .non :: _, _, _, _, e => by cases e
  | .int _ :: _, _, _, _, e => by cases e
  | .str _ :: _, _, _, _, e => by cases e
  | .tup _ :: _, _, _, _, e => by cases e
  | .ref _ :: _, _, _, _, e => by cases e
  | .fn _ :: _, _, _, _, e => by cases e
theorem call_lenK : CallR X (.builtin "len") (fun xs H Q => ∃ a kvs, xs = [.ref a] ∧ H a = some (.dK kvs) ∧ Q (.int kvs.length) H) := by
  intro pins s σ H xs us Q I r h
  obtain ⟨a, kvs, rfl, e, q⟩ := h
  obtain ⟨u, rfl, rx⟩ := vals1 r
  cases rx
  exact d_len I (.inl e) fun t s' I' => ⟨.int _, H, I', ⟨_, rfl⟩, q⟩
theorem st_istr (i : Int) : st (istr i) = ((toString i : String) : Str) := st_of _
theorem RK.keysI : ∀ {kvs : List (Ky × D)} {gs : List (Key × V)} {ns : List Int}, RK Z H kvs gs → kvs.map (·.1) = ns.map Sum.inl → gs.map (·.1) = ns.map Sum.inl
  | _, _, [], .nil, _ => rfl
  | _, _, n :: ns, .cons r t, e => by
    simp only [List.map_cons, List.cons.injEq] at e ⊢
    obtain ⟨rfl, e⟩ := e
    exact ⟨rfl, RK.keysI t e⟩
  | _, _, [], .cons _ _, e => by cases e
  | _, _, _ :: _, .nil, e => by cases e
theorem RK.keysS : ∀ {kvs : List (Ky × D)} {gs : List (Key × V)} {ns : List (List Nat)}, RK Z H kvs gs → kvs.map (·.1) = ns.map Sum.inr → gs.map (·.1) = (ns.map st).map Sum.inr
  | _, _, [], .nil, _ => rfl
  | _, _, n :: ns, .cons r t, e => by
    simp only [List.map_cons, List.cons.injEq] at e ⊢
    obtain ⟨rfl, e⟩ := e
    exact ⟨rfl, RK.keysS t e⟩
  | _, _, [], .cons _ _, e => by cases e
  | _, _, _ :: _, .nil, e => by cases e
theorem RDs.ofInts : ∀ ys : List Int, RDs Z H (ys.map .int) (ys.map V.int)
  | [] => .nil
  | _ :: ys => .cons .int (RDs.ofInts ys)
theorem RDs.ofStrs : ∀ ys : List (List Nat), RDs Z H (ys.map .str) ((ys.map st).map V.str)
  | [] => .nil
  | _ :: ys => .cons .str (RDs.ofStrs ys)
theorem RDs.strs : ∀ {ls : List (List Nat)} {vs : List V}, RDs Z H (ls.map D.str) vs → vs = (ls.map st).map V.str
  | [], _, .nil => rfl
  | l :: ls, _, .cons r t => by cases r; rw [RDs.strs t]; rfl
/-- an arrangement of texts -/
theorem perm_st {ls : List (List Nat)} {ys : List Str} (h : ys.Perm (ls.map st)) : ∃ zs : List (List Nat), zs.Perm ls ∧ ys = zs.map st := by
  refine ⟨ys.map fun y => y.cps.toList, ?_, ?_⟩
  · have := h.map fun y : Str => y.cps.toList
    rw [List.map_map] at this
    have e : ((fun y : Str => y.cps.toList) ∘ st) = id := funext fun l => st_cps l
    rw [e, List.map_id] at this
    exact this
  · rw [List.map_map]
    have e : (st ∘ fun y : Str => y.cps.toList) = id := funext fun y => st_of y
    rw [e, List.map_id]
theorem Kq.newK {kvs : List (Ky × D)} {gs : List (Key × V)} (q : Kq Z H Qa Q) (sr : SR Z S H) (r : RK Z H kvs gs) (h : newW (.dct kvs) S Qa) : ∀ p, H p = none → Q (.ref p) (upd H p (.dK gs)) := fun p n =>
  q (.ref p) (.ref p) (S.upd p (.dct kvs)) _ (TK.new n) (sr.put (c := .dct kvs) (TK.new n) ⟨gs, upd_same, r.keep (TK.new n)⟩) .ref (h p (sr.free n))
theorem bi_ok (hK : Z.K = X.K) (hc : X.calm = true) {b : Bi} {xs : List D} {vs : List V} (sr : SR Z S H) (rx : RDs Z H xs vs) (h : biW b xs S Qa) (q : Kq Z H Qa Q) : cAny X (biF b) vs H Q := by
  unfold biW at h
  split at h
  · obtain ⟨v, rfl, r⟩ := rx.one
    cases r
    exact ⟨_, call_len_str, _, rfl, by rw [st_length]; exact h.1, by rw [st_length]; exact q.pure sr .int h.2⟩
  · obtain ⟨v, rfl, r⟩ := rx.one
    cases r with
    | tup t rs => exact ⟨_, call_len_seq, _, _, rfl, .inr (by rw [← hK]; exact t.sq), by rw [← rs.length]; exact q.pure sr .int h⟩
  · obtain ⟨v, rfl, r⟩ := rx.one
    cases r
    split at h
    · rename_i ds e
      obtain ⟨vs, sq, rs⟩ := rdAt (K := X.K) sr (show rd S _ = some ds by unfold rd; rw [e])
      exact ⟨_, call_len_seq, _, _, rfl, .inl sq, by rw [← rs.length]; exact q.pure sr .int h⟩
    · rename_i ds e
      obtain ⟨vs, sq, rs⟩ := rdAt (K := X.K) sr (show rd S _ = some ds by unfold rd; rw [e])
      exact ⟨_, call_len_seq, _, _, rfl, .inl sq, by rw [← rs.length]; exact q.pure sr .int h⟩
    · rename_i kvs e
      obtain ⟨gs, hg, r⟩ := sr _ _ e
      exact ⟨_, call_lenK, _, _, rfl, hg, by rw [← r.length]; exact q.pure sr .int h⟩
    · exact h.elim
  · obtain ⟨v, rfl, r⟩ := rx.one
    cases r
    exact ⟨_, call_int1, .inl ⟨_, rfl, q.pure sr .int h⟩⟩
  · obtain ⟨v, rfl, r⟩ := rx.one
    cases r
    exact ⟨_, call_int1, .inr ⟨_, rfl, q.pure sr .int h⟩⟩
  · obtain ⟨v, u, rfl, r, r2⟩ := rx.two
    cases r; cases r2
    exact ⟨_, call_max2 hc, _, _, rfl, q.pure sr .int h⟩
  · obtain ⟨v, u, rfl, r, r2⟩ := rx.two
    cases r; cases r2
    exact ⟨_, call_min2 hc, _, _, rfl, q.pure sr .int h⟩
  · obtain ⟨v, rfl, r⟩ := rx.one
    cases r
    obtain ⟨ds, ns, e, ei, hn, h⟩ := h
    obtain ⟨vs, sq, rs⟩ := rdAt (K := X.K) sr e
    rw [rs.ints ei] at sq
    exact ⟨_, cr_max hc, _, _, rfl, sq, hn, fun m h1 h2 => q.pure sr .int (h m h1 h2)⟩
  · obtain ⟨v, rfl, r⟩ := rx.one
    cases r
    obtain ⟨ds, ns, e, ei, hn, h⟩ := h
    obtain ⟨vs, sq, rs⟩ := rdAt (K := X.K) sr e
    rw [rs.ints ei] at sq
    exact ⟨_, cr_min hc, _, _, rfl, sq, hn, fun m h1 h2 => q.pure sr .int (h m h1 h2)⟩
  · obtain ⟨v, rfl, r⟩ := rx.one
    cases r
    obtain ⟨ds, ns, e, ei, h⟩ := h
    obtain ⟨vs, sq, rs⟩ := rdAt (K := X.K) sr e
    rw [rs.ints ei] at sq
    exact ⟨_, cr_sum hc, _, _, rfl, sq, q.pure sr .int h⟩
  · obtain ⟨v, rfl, r⟩ := rx.one
    cases r
    obtain ⟨ds, ns, e, ei, h⟩ := h
    obtain ⟨vs, sq, rs⟩ := rdAt (K := X.K) sr e
    rw [rs.bls ei] at sq
    exact ⟨_, cr_all hc, _, _, rfl, sq, q.pure sr .bl h⟩
  · obtain ⟨v, rfl, r⟩ := rx.one
    cases r
    obtain ⟨ds, ns, e, ei, h⟩ := h
    obtain ⟨vs, sq, rs⟩ := rdAt (K := X.K) sr e
    rw [rs.bls ei] at sq
    exact ⟨_, cr_any hc, _, _, rfl, sq, q.pure sr .bl h⟩
  · obtain ⟨v, rfl, r⟩ := rx.one
    cases r
    obtain ⟨ds, e, h⟩ := h
    obtain ⟨vs, sq, rs⟩ := rdAt (K := X.K) sr e
    exact ⟨_, call_tuple_of, _, _, rfl, .inl ⟨sq, q.newT sr rs h⟩⟩
  · obtain ⟨v, rfl, r⟩ := rx.one
    cases r with
    | tup t rs => exact ⟨_, call_tuple_of, _, _, rfl, .inr ⟨by rw [← hK]; exact t.sq, q.pure sr (.tup t rs) h⟩⟩
  · obtain ⟨v, rfl, r⟩ := rx.one
    cases r
    obtain ⟨ds, e, h⟩ := h
    obtain ⟨vs, sq, rs⟩ := rdAt (K := X.K) sr e
    exact ⟨_, call_list_of, _, _, rfl, .inl sq, q.newL sr rs h⟩
  · obtain ⟨v, rfl, r⟩ := rx.one
    cases r with
    | tup t rs => exact ⟨_, call_list_of, _, _, rfl, .inr (by rw [← hK]; exact t.sq), q.newL sr rs h⟩
  · obtain ⟨v, rfl, r⟩ := rx.one
    cases r
    exact ⟨_, call_abs, _, rfl, q.pure sr .int h⟩
  · obtain ⟨v, rfl, r⟩ := rx.one
    cases r
    exact ⟨_, call_str_int, _, rfl, h.1, by rw [← st_istr]; exact q.pure sr .str h.2⟩
  · obtain ⟨v, rfl, r⟩ := rx.one
    cases r
    exact ⟨_, SkE.call_str_str, _, rfl, q.pure sr .str h⟩
  · obtain ⟨v, rfl, r⟩ := rx.one
    cases r
    exact ⟨_, SkE.call_repr_int, _, rfl, h.1, by rw [← st_istr]; exact q.pure sr .str h.2⟩
  · obtain ⟨v, rfl, r⟩ := rx.one
    cases r
    exact ⟨_, ZM.call_repr_bl, _, rfl, by rename_i b; cases b <;> exact q.pure sr .str h⟩
  · obtain ⟨v, rfl, r⟩ := rx.one
    cases r
    split at h
    · rename_i kvs e
      obtain ⟨gs, hg, rk⟩ := sr _ _ e
      rcases h with ⟨ns, hk, hl, h⟩ | ⟨ls, hk, hl, h⟩
      · exact ⟨_, call_sortedDI hc, _, gs, ns, rfl, Rd.of hg, rk.keysI hk, hl, fun ys p h1 h2 hp => q.newL sr (RDs.ofInts ys) (h ys h1 h2) p hp⟩
      · refine ⟨_, call_sortedD hc, _, gs, ls.map st, rfl, Rd.of hg, rk.keysS hk, by rw [List.length_map]; exact hl, fun ys p h1 h2 hp => ?_⟩
        obtain ⟨zs, hz, rfl⟩ := perm_st h1
        exact q.newL sr (RDs.ofStrs zs) (h zs hz h2) p hp
    · rename_i ds e
      obtain ⟨vs, sq, rs⟩ := rdAt (K := X.K) sr (show rd S _ = some ds by unfold rd; rw [e])
      rcases h with ⟨ns, hk, h⟩ | ⟨ls, hk, hl, h⟩
      · rw [rs.ints hk] at sq
        exact ⟨_, cr_sortedI, _, ns, rfl, sq, fun ys p h1 h2 hp => q.newL sr (RDs.ofInts ys) (h ys h1 h2) p hp⟩
      · subst hk
        rw [rs.strs] at sq
        refine ⟨_, cr_sortedS, _, ls.map st, rfl, sq, by rw [List.length_map]; exact hl, fun ys p h1 h2 hp => ?_⟩
        obtain ⟨zs, hz, rfl⟩ := perm_st h1
        exact q.newL sr (RDs.ofStrs zs) (h zs hz h2) p hp
    · exact h.elim
  · obtain ⟨v, rfl, r⟩ := rx.one
    cases r
    split at h
    · rename_i kvs e
      obtain ⟨gs, hg, rk⟩ := sr _ _ e
      exact ⟨_, call_dictD, _, gs, rfl, Rd.of hg, fun p hp => q.newK sr rk h p hp⟩
    · exact h.elim
  · exact h.elim
/-! ### methods of lists -/
def bmId : Bm → String
  | .append => "list.append" | .pop => "list.pop" | .extend => "list.extend" | .count => "str.count" | .index => "list.index"
theorem Kq.setL {a : Addr} {ds : List D} {vs us : List V} {d : D} {v : V} (q : Kq Z H Qa Q) (sr : SR Z S H) (e : H a = some (.lst us)) (r : RDs Z H ds vs) (rd : RD Z H d v) (h : Qa d (S.upd a (.lst ds))) : Q v (upd H a (.lst vs)) :=
  have k : TK H (upd H a (.lst vs)) := TK.mut e trivial
  q d v _ _ k (sr.put (c := .lst ds) k ⟨vs, upd_same, r.keep k⟩) (rd.keep k) h
set_option maxRecDepth 8000 in
/-- a list extended by any tuple -/
theorem ext_tup (l b : Addr) (xs ys : Array Value) (n : Nat) (hs : xs.size + ys.size ≤ sizeLine) :
    Meets (Builtin.«list.extend» ⟨[.ref l, .ref b], []⟩) fun _ R s =>
      (∃ ol : Obj, ol = { cls := .type "list", dict := none, data := .seq xs n, slots := #[] } ∧ s.heap.get? l = some ol) ∧ IsTup s.heap b ys ∧
      R (.ok (.ret Value.none)) { s with heap := s.heap.update l (Obj.mapSeq (· ++ ys)), toks := s.toks } := by
  refine .of_wp fun prog w A R s h => ?_
  obtain ⟨hp, g, d, tk, os⟩ := s
  obtain ⟨⟨_, rfl, hl⟩, ⟨⟨cl, di, da, sl⟩, hb, hc, m, hd⟩, h⟩ := h
  dsimp only at hc hd
  subst hc hd
  have f1 := AutoSeq1.idx_int
  have f2 := PyProof.Rows.sub_tuple_tuple
  have f3 := PyProof.Rows.sub_list_list
  have f4 := PyProof.Rows.sub_tuple_list
  have f5 := PyProof.Rows.sub_list_tuple
  have hs1 : xs.size ≤ sizeLine := by omega
  have hs2 : (xs ++ ys).size ≤ sizeLine + 1 := by rw [Array.size_append]; omega
  have hs0 : ¬(!xs.isEmpty && Builtin.List.listTooLong (xs.size + ys.size)) = true := by
    rw [notLongL hs, Bool.and_false]
    exact Bool.false_ne_true
  wp_walk using (wpAny_updateSeq hl rfl (hz := hs1) (_hz' := hs2)), AutoSeq1.wpAny_loadPart' hl, AutoSeq1.wpAny_loadPart' hb
  exact ⟨_, rfl, h⟩
def rExtendT (K : PySem.W.Frag) : V → List V → Hp → VK → Prop := fun x vs H Q => ∃ l b xs zs, x = .ref l ∧ vs = [.ref b] ∧ H l = some (.lst xs) ∧ SqT K H b zs ∧ xs.length + zs.length ≤ sizeLine ∧ Q .non (upd H l (.lst (xs ++ zs)))
theorem mt_extendT : MtR X "list.extend" (rExtendT X.K) := by
  intro pins s σ H x vs v us Q I rx rv h
  obtain ⟨l, b, xs, zs, rfl, rfl, hH, hB, hz, q⟩ := h
  cases rx
  obtain ⟨u, rfl, ru⟩ := rv.one
  cases ru
  obtain ⟨z, its, n, r, hl, e⟩ := I.lstM hH
  obtain ⟨its2, r2, t2, z2⟩ := I.tuple hB
  have l1 := r.length
  have l2 := r2.length
  refine call_meets PySem.F.slot_list_extend ⟨_, e, rfl⟩ PySem.F.entry_list_extend (PySem.F.args_list_extend_2 _ _) (ext_tup l b its.toArray its2.toArray n (by rw [List.size_toArray, List.size_toArray]; omega)) ⟨⟨_, rfl, e⟩, t2, ?_⟩
  refine ⟨.non, _, I.lset (its' := its ++ its2) hH e (by simp) (r.append r2) ?_, rfl, q⟩
  rw [List.length_append]
  omega
theorem bm_ok (hK : Z.K = X.K) (hu : X.A.units + 190 < cLine) (hc : X.calm = true) {m : Bm} {o : D} {x : V} {xs : List D} {vs : List V} (sr : SR Z S H) (ro : RD Z H o x) (rx : RDs Z H xs vs) (h : bmW m o xs S Qa) (q : Kq Z H Qa Q) :
    ∃ r, MtR X (bmId m) r ∧ r x vs H Q := by
  unfold bmW at h
  split at h
  · cases ro
    split at h
    · rename_i ds e
      obtain ⟨us, hl, rs⟩ := lstAt sr e
      split at h
      · obtain ⟨v, rfl, r⟩ := rx.one
        exact ⟨_, mt_append, _, _, _, rfl, rfl, hl, by rw [← rs.length]; exact h.1, q.setL sr hl (rs.append (.cons r .nil)) .non h.2⟩
      · cases rx
        obtain ⟨d, e2, h⟩ := h
        obtain ⟨y, hy, ry⟩ := rs.get e2
        exact ⟨_, mt_pop, _, _, _, rfl, rfl, hl, by rw [← rs.length]; exact hy, q.setL sr hl rs.dropLast ry h⟩
      · obtain ⟨v, rfl, r⟩ := rx.one
        cases r
        obtain ⟨hi, j, d, ej, e2, h⟩ := h
        obtain ⟨y, hy, ry⟩ := rs.get e2
        obtain ⟨p1, p2, p3, p4⟩ := ixN_seq ej
        exact ⟨_, mt_popAt, _, _, _, _, _, rfl, rfl, hl, hi.1, hi.2, by rw [← rs.length]; exact p1, hy, q.setL sr hl (rs.eraseIdx j) ry h⟩
      · obtain ⟨v, rfl, r⟩ := rx.one
        cases r
        obtain ⟨es, e2, hz, h⟩ := h
        obtain ⟨ws, hl2, rs2⟩ := lstAt sr e2
        exact ⟨_, mt_extend, _, _, _, _, rfl, rfl, hl, hl2, by rw [← rs.length, ← rs2.length]; exact hz, q.setL sr hl (rs.append rs2) .non h⟩
      · obtain ⟨v, rfl, r⟩ := rx.one
        cases r with
        | tup t rs2 => exact ⟨_, mt_extendT, _, _, _, _, rfl, rfl, hl, by rw [← hK]; exact t.sq, by rw [← rs.length, ← rs2.length]; exact h.1, q.setL sr hl (rs.append rs2) .non h.2⟩
      · obtain ⟨v, rfl, r⟩ := rx.one
        obtain ⟨p, ps, j, z, p1, p2, d1, d2, ej, ez, hno, h⟩ := h
        have er := show rd S _ = some ds by unfold rd; rw [e]
        refine ⟨_, mt_indexD (by omega), _, _, p, ps, j, z, rfl, rfl, PD.dp hK sr (.ref er p2) .ref, p1.dp hK sr r, ?_, ?_, ej, ez, hno, q.pure sr .int h⟩
        · have := (PD.ref (a := _) er p2).lay
          simp only [SeqAt.shaped, this, Bool.true_and, decide_eq_true_eq]
          show PyData.depthAll ps + 1 ≤ 64
          omega
        · simp only [SeqAt.shaped, p1.lay, Bool.true_and, decide_eq_true_eq]
          omega
      · exact h.elim
    · exact h.elim
  · exact h.elim
def bmT : Bm → String
  | .count => "str"
  | _ => "list"
theorem bmTy_ok {m : Bm} {o : D} {x : V} (sr : SR Z S H) (ro : RD Z H o x) (h : bmTy m o S) : tyV X.K (bmT m) x H := by
  unfold bmTy at h
  split at h
  · cases ro; rfl
  · cases ro; obtain ⟨ds, e⟩ := h; obtain ⟨us, hl, rs⟩ := lstAt sr e; exact Or.inl ⟨rfl, _, SqL.of hl⟩
  · cases ro; obtain ⟨ds, e⟩ := h; obtain ⟨us, hl, rs⟩ := lstAt sr e; exact Or.inl ⟨rfl, _, SqL.of hl⟩
  · cases ro; obtain ⟨ds, e⟩ := h; obtain ⟨us, hl, rs⟩ := lstAt sr e; exact Or.inl ⟨rfl, _, SqL.of hl⟩
  · cases ro; obtain ⟨ds, e⟩ := h; obtain ⟨us, hl, rs⟩ := lstAt sr e; exact Or.inl ⟨rfl, _, SqL.of hl⟩
  · exact h.elim
end
end Mini
end L2
/-! Mini, part F: expressions -/
namespace L2
namespace Mini
open PySem PySem.Spec PyProof.Rows
/-- a word's readings as a test, as arguments -/
def TTx (Z : Nm) (W : WX) (w : Env → Sto → (Bool → Sto → Prop) → QX → Prop) : TT := fun τ H Q => ∃ σ S Qa E, ER Z H σ τ ∧ SR Z S H ∧ w σ S Qa E ∧ (∀ r S' H', TK H H' → SR Z S' H' → Qa r S' → Q r H') ∧ Kx Z W τ H E
def TAx (Z : Nm) (W : WX) (w : Env → Sto → (List D → Sto → Prop) → QX → Prop) : TA := fun τ H Q => ∃ σ S Qa E, ER Z H σ τ ∧ SR Z S H ∧ w σ S Qa E ∧ (∀ ds vs S' H', TK H H' → SR Z S' H' → RDs Z H' ds vs → Qa ds S' → Q vs H') ∧ Kx Z W τ H E
def TOx (Z : Nm) (W : WX) (w : Env → Sto → (Option Int → Sto → Prop) → QX → Prop) : TO := fun τ H Q => ∃ σ S Qa E, ER Z H σ τ ∧ SR Z S H ∧ w σ S Qa E ∧ (∀ r S' H', TK H H' → SR Z S' H' → Qa r S' → Q r H') ∧ Kx Z W τ H E
def SEt (X : Cx) (Z : Nm) (W : WX) (e : Expr) (w : Env → Sto → (Bool → Sto → Prop) → QX → Prop) : Prop := PT X e (TTx Z W w)
def SAs (X : Cx) (Z : Nm) (W : WX) (es : List Expr) (w : Env → Sto → (List D → Sto → Prop) → QX → Prop) : Prop := PA X es (TAx Z W w)
def SO (X : Cx) (Z : Nm) (W : WX) (e : Option Expr) (w : Env → Sto → (Option Int → Sto → Prop) → QX → Prop) : Prop := PO X e (TOx Z W w)
/-- the word of a test -/
def toT (w : WE0) : Env → Sto → (Bool → Sto → Prop) → QX → Prop := fun σ S Q E => w σ S (fun x S1 => match tru S1 x with | some r => Q r S1 | none => False) E
theorem PT.imp {X : Cx} {e : Expr} {t t' : TT} (h : PT X e t) (i : ∀ τ H Q, t' τ H Q → t τ H Q) : PT X e t' := ⟨fun pins s σ H Q I w => h.run pins s σ H Q I (i _ _ _ w)⟩
theorem PA.imp {X : Cx} {e : List Expr} {t t' : TA} (h : PA X e t) (i : ∀ τ H Q, t' τ H Q → t τ H Q) : PA X e t' := ⟨fun pos pins s σ H Q I w => h.run pos pins s σ H Q I (i _ _ _ w)⟩
section
variable {X : Cx} {Z : Nm} {W : WX} {a₀ b₀ c₀ : Expr} {wa wb wc : WE0} {pos : Pos}
theorem tru_tv {K : PySem.W.Frag} {S : Sto} {H : Hp} {x : D} {v : V} {r : Bool} (hK : Z.K = K) (sr : SR Z S H) (rx : RD Z H x v) (h : tru S x = some r) : TruV K v H r := by
  cases x with
  | non => cases rx; cases h; rfl
  | bl b => cases rx; cases h; rfl
  | int i => cases rx; cases h; rfl
  | str l => cases h
  | tup ds =>
    cases rx with
    | tup t rs =>
      cases h
      refine .inr (.inl ⟨_, by rw [← hK]; exact t.sq, ?_⟩)
      cases rs <;> rfl
  | ref a =>
    cases rx
    simp only [tru] at h
    cases e : rd S a with
    | none => rw [e] at h; cases h
    | some ds =>
      rw [e] at h
      cases h
      obtain ⟨vs, sq, rs⟩ := rdAt (K := K) sr e
      refine .inl ⟨vs, sq, ?_⟩
      cases rs <;> rfl
  | fn f => cases h
theorem se_var {x : Str} {i : Nat} (hN : X.N[i]? = some x) (hv : Vis X.env.scope x) (hd : (x == ("__debug__" : Str)) = false) (hcd : (x == ("__classdict__" : Str)) = false) :
    SE X Z W (.Name x pos) (fun σ S Q _ => match σ.get i with | some d => Q d S | none => False) :=
  PE.imp (pe_var hN hv hd hcd) fun τ H Q ⟨σ, S, Qa, E, er, sr, w, q, qe⟩ => by
    dsimp only at w
    split at w
    · rename_i d e
      obtain ⟨v, h1, h2⟩ := er.2 i d e
      exact ⟨v, h1, q.pure sr h2 w⟩
    · exact w.elim
theorem se_con {e : Expr} {d : D} {v : V} (h : PE X e (tC v)) (r : ∀ H, RD Z H d v) : SE X Z W e (fun _ S Q _ => Q d S) :=
  PE.imp h fun τ H Q ⟨σ, S, Qa, E, er, sr, w, q, qe⟩ => q.pure sr (r H) w
/-- two operands, then an operation by values -/
theorem two_ok {R : V → V → Hp → Prop} {op : D → D → Sto → Prop} {τ : St} {H : Hp} {σ : Env} {S : Sto} {E : QX} (er : ER Z H σ τ) (sr : SR Z S H) (w : wa σ S (fun x S1 => wb σ S1 (fun y S2 => op x y S2) E) E) (qe : Kx Z W τ H E)
    (ok : ∀ {S2 : Sto} {H2 : Hp} {x y : D} {v u : V}, TK H H2 → SR Z S2 H2 → RD Z H2 x v → RD Z H2 y u → op x y S2 → R v u H2) : TEx Z W wa τ H fun x H1 => TEx Z W wb τ H1 fun y H2 => R x y H2 := by
  refine ⟨σ, S, _, E, er, sr, w, fun d v S1 H1 k1 sr1 rd1 w1 => ?_, qe⟩
  refine ⟨σ, S1, _, E, er.keep k1, sr1, w1, fun d2 v2 S2 H2 k2 sr2 rd2 w2 => ?_, qe.keep k1⟩
  exact ok (k1.trans k2) sr2 (rd1.keep k2) rd2 w2
theorem se_bin {op : Bop} (hK : Z.K = X.K) (ha : SE X Z W a₀ wa) (hb : SE X Z W b₀ wb) : SE X Z W (.BinOp a₀ (bopOf op) b₀ pos) (fun σ S Q E => wa σ S (fun x S1 => wb σ S1 (fun y S2 => binW op x y S2 Q) E) E) :=
  PE.imp (pe_op (rAny.ok X _) ha hb) fun τ H Q ⟨σ, S, Qa, E, er, sr, w, q, qe⟩ => two_ok er sr w qe fun k sr rx ry h => bin_ok hK sr rx ry h (q.keep k)
theorem se_cmp {op : Cop} (hK : Z.K = X.K) (hu : X.A.units + 190 < cLine) (ha : SE X Z W a₀ wa) (hb : SE X Z W b₀ wb) (hm : behindInMarks (copOf op) b₀ = false) : SE X Z W (.Compare a₀ [copOf op] [b₀] pos) (fun σ S Q E => wa σ S (fun x S1 => wb σ S1 (fun y S2 => cmpW op x y S2 Q) E) E) :=
  PE.imp (pe_cmpR (rAny.ok X _) ha hb hm) fun τ H Q ⟨σ, S, Qa, E, er, sr, w, q, qe⟩ => two_ok er sr w qe fun k sr rx ry h => cmp_ok hK hu sr rx ry h (q.keep k)
/-- every answer of a comparison is a truth value -/
theorem cmpW_bl {op : Cop} {x y : D} {S : Sto} {Q : QD} (h : cmpW op x y S Q) : cmpW op x y S (fun d S' => ∃ r, d = .bl r ∧ Q d S') := by
  have eqw : ∀ {n : Bool}, eqW x y n S Q → eqW x y n S (fun d S' => ∃ r, d = .bl r ∧ Q d S') := fun {n} h => by
    unfold eqW at h ⊢
    split at h
    · exact ⟨_, rfl, h⟩
    · exact ⟨_, rfl, h⟩
    · obtain ⟨r, e, h⟩ := h
      exact ⟨r, e, _, rfl, h⟩
  have inw : ∀ {n : Bool}, inW x y n S Q → inW x y n S (fun d S' => ∃ r, d = .bl r ∧ Q d S') := fun {n} h => by
    unfold inW at h ⊢
    split at h
    · exact ⟨_, rfl, h⟩
    · rename_i a hx
      split at h
      · rename_i kvs e
        split at h
        · exact ⟨_, rfl, h⟩
        · exact ⟨_, rfl, h⟩
        · exact h.elim
      · obtain ⟨r, e, h⟩ := h
        exact ⟨r, e, _, rfl, h⟩
      · obtain ⟨r, e, h⟩ := h
        exact ⟨r, e, _, rfl, h⟩
      · exact h.elim
    · obtain ⟨r, e, h⟩ := h
      exact ⟨r, e, _, rfl, h⟩
    · exact h.elim
  cases op with
  | eq => exact eqw h
  | ne => exact eqw h
  | in_ => exact inw h
  | notin => exact inw h
  | lt => simp only [cmpW] at h ⊢; split at h <;> first | exact ⟨_, rfl, h⟩ | exact h.elim
  | le => simp only [cmpW] at h ⊢; split at h <;> first | exact ⟨_, rfl, h⟩ | exact h.elim
  | gt => simp only [cmpW] at h ⊢; split at h <;> first | exact ⟨_, rfl, h⟩ | exact h.elim
  | ge => simp only [cmpW] at h ⊢; split at h <;> first | exact ⟨_, rfl, h⟩ | exact h.elim
  | is_ => simp only [cmpW] at h ⊢; split at h <;> first | exact ⟨_, rfl, h⟩ | exact h.elim
  | isnot => simp only [cmpW] at h ⊢; split at h <;> first | exact ⟨_, rfl, h⟩ | exact h.elim
theorem st_cmp {op : Cop} (hK : Z.K = X.K) (hu : X.A.units + 190 < cLine) (ha : SE X Z W a₀ wa) (hb : SE X Z W b₀ wb) (hm : behindInMarks (copOf op) b₀ = false) : SEt X Z W (.Compare a₀ [copOf op] [b₀] pos) (toT fun σ S Q E => wa σ S (fun x S1 => wb σ S1 (fun y S2 => cmpW op x y S2 Q) E) E) :=
  PT.imp (pt_cmpR (rAny.ok X _) ha hb hm) fun τ H Q ⟨σ, S, Qa, E, er, sr, w, q, qe⟩ => by
    refine two_ok er sr w qe fun k sr rx ry h => cmp_ok hK hu sr rx ry (cmpW_bl h) fun d v S' H' k' sr' rd' h' => ?_
    obtain ⟨r, e, h'⟩ := h'
    subst e
    cases rd'
    exact ⟨r, rfl, q r S' H' (k.trans k') sr' h'⟩
theorem se_neg (ha : SE X Z W a₀ wa) : SE X Z W (.UnaryOp .USub a₀ pos) (fun σ S Q E => wa σ S (fun x S1 => match x with | .int i => Q (.int (-i)) S1 | _ => False) E) :=
  PE.imp (pe_un un_neg ha) fun τ H Q ⟨σ, S, Qa, E, er, sr, w, q, qe⟩ => by
    refine ⟨σ, S, _, E, er, sr, w, fun d v S1 H1 k1 sr1 rd1 w1 => ?_, qe⟩
    dsimp only at w1
    split at w1
    · cases rd1; exact ⟨_, rfl, (q.keep k1).pure sr1 .int w1⟩
    · exact w1.elim
/-! ### and, or, not, if else -/
theorem se_and {rest : List Expr} (hK : Z.K = X.K) (ha : SE X Z W a₀ wa) (hb : SE X Z W (.BoolOp .And (b₀ :: rest) pos) wb) : SE X Z W (.BoolOp .And (a₀ :: b₀ :: rest) pos) (fun σ S Q E => wa σ S (fun x S1 => match tru S1 x with | some true => wb σ S1 Q E | some false => Q x S1 | none => False) E) :=
  PE.imp (pe_andT ha hb) fun τ H Q ⟨σ, S, Qa, E, er, sr, w, q, qe⟩ => by
    refine ⟨σ, S, _, E, er, sr, w, fun d v S1 H1 k1 sr1 rd1 w1 => ?_, qe⟩
    dsimp only at w1
    split at w1
    · rename_i e; exact ⟨_, tru_tv hK sr1 rd1 e, iteT ⟨σ, S1, Qa, E, er.keep k1, sr1, w1, q.keep k1, qe.keep k1⟩⟩
    · rename_i e; exact ⟨_, tru_tv hK sr1 rd1 e, iteF ((q.keep k1).pure sr1 rd1 w1)⟩
    · exact w1.elim
theorem se_or {rest : List Expr} (hK : Z.K = X.K) (ha : SE X Z W a₀ wa) (hb : SE X Z W (.BoolOp .Or (b₀ :: rest) pos) wb) : SE X Z W (.BoolOp .Or (a₀ :: b₀ :: rest) pos) (fun σ S Q E => wa σ S (fun x S1 => match tru S1 x with | some true => Q x S1 | some false => wb σ S1 Q E | none => False) E) :=
  PE.imp (pe_orT ha hb) fun τ H Q ⟨σ, S, Qa, E, er, sr, w, q, qe⟩ => by
    refine ⟨σ, S, _, E, er, sr, w, fun d v S1 H1 k1 sr1 rd1 w1 => ?_, qe⟩
    dsimp only at w1
    split at w1
    · rename_i e; exact ⟨_, tru_tv hK sr1 rd1 e, iteT ((q.keep k1).pure sr1 rd1 w1)⟩
    · rename_i e; exact ⟨_, tru_tv hK sr1 rd1 e, iteF ⟨σ, S1, Qa, E, er.keep k1, sr1, w1, q.keep k1, qe.keep k1⟩⟩
    · exact w1.elim
theorem se_one {op : BoolOp} (ha : SE X Z W a₀ wa) : SE X Z W (.BoolOp op [a₀] pos) wa := pe_one ha
theorem se_not (hK : Z.K = X.K) (ha : SE X Z W a₀ wa) : SE X Z W (.UnaryOp .Not a₀ pos) (fun σ S Q E => wa σ S (fun x S1 => match tru S1 x with | some r => Q (.bl (!r)) S1 | none => False) E) :=
  PE.imp (pe_notT ha) fun τ H Q ⟨σ, S, Qa, E, er, sr, w, q, qe⟩ => by
    refine ⟨σ, S, _, E, er, sr, w, fun d v S1 H1 k1 sr1 rd1 w1 => ?_, qe⟩
    dsimp only at w1
    split at w1
    · rename_i e; exact ⟨_, tru_tv hK sr1 rd1 e, (q.keep k1).pure sr1 .bl w1⟩
    · exact w1.elim
theorem st_plain (hK : Z.K = X.K) (ha : SE X Z W a₀ wa) (he : ∀ whole, isTrue a₀ X.env whole = (do let v ← whole; standAt a₀.pos; holding [v] (truthy v))) : SEt X Z W a₀ (toT wa) :=
  PT.imp (pt_truth ha he) fun τ H Q ⟨σ, S, Qa, E, er, sr, w, q, qe⟩ => by
    refine ⟨σ, S, _, E, er, sr, w, fun d v S1 H1 k1 sr1 rd1 w1 => ?_, qe⟩
    dsimp only at w1
    split at w1
    · rename_i e; exact ⟨_, tru_tv hK sr1 rd1 e, q _ _ _ k1 sr1 w1⟩
    · exact w1.elim
theorem st_not (ha : SEt X Z W a₀ (toT wa)) : SEt X Z W (.UnaryOp .Not a₀ pos) (toT fun σ S Q E => wa σ S (fun x S1 => match tru S1 x with | some r => Q (.bl (!r)) S1 | none => False) E) :=
  PT.imp (pt_not ha) fun τ H Q ⟨σ, S, Qa, E, er, sr, w, q, qe⟩ => ⟨σ, S, fun r S1 => Qa (!r) S1, E, er, sr, w, fun r S1 H1 k1 sr1 w1 => q _ _ _ k1 sr1 w1, qe⟩
/-- a test of and, or: whatever its whole is -/
def SWt (X : Cx) (Z : Nm) (W : WX) (e : Expr) (w : Env → Sto → (Bool → Sto → Prop) → QX → Prop) : Prop := PW X e (TTx Z W w)
theorem PW.imp {e : Expr} {t t' : TT} (h : PW X e t) (i : ∀ τ H Q, t' τ H Q → t τ H Q) : PW X e t' := ⟨fun wh pins s σ H Q I w => h.run wh pins s σ H Q I (i _ _ _ w)⟩
theorem sw_and1 (ha : SEt X Z W a₀ (toT wa)) : SWt X Z W (.BoolOp .And [a₀] pos) (toT wa) := pw_and1 ha
theorem sw_or1 (ha : SEt X Z W a₀ (toT wa)) : SWt X Z W (.BoolOp .Or [a₀] pos) (toT wa) := pw_or1 ha
theorem SWt.t {e : Expr} {w : Env → Sto → (Bool → Sto → Prop) → QX → Prop} (h : SWt X Z W e w) : SEt X Z W e w := h.pt
/-- what the word of and, or asks, as a test -/
theorem toT_of {S1 : Sto} {x : D} {r : Bool} {Qa : Bool → Sto → Prop} (e : tru S1 x = some r) (h : match tru S1 x with | some r => Qa r S1 | none => False) : Qa r S1 := by rw [e] at h; exact h
theorem sw_and {rest : List Expr} (ha : SEt X Z W a₀ (toT wa)) (hb : SWt X Z W (.BoolOp .And (b₀ :: rest) pos) (toT wb)) :
    SWt X Z W (.BoolOp .And (a₀ :: b₀ :: rest) pos) (toT fun σ S Q E => wa σ S (fun x S1 => match tru S1 x with | some true => wb σ S1 Q E | some false => Q x S1 | none => False) E) :=
  PW.imp (pw_and ha hb) fun τ H Q ⟨σ, S, Qa, E, er, sr, w, q, qe⟩ => by
    have ee : (fun (x : D) (S1 : Sto) => (match tru S1 x with | some true => wb σ S1 (fun x S1 => match tru S1 x with | some r => Qa r S1 | none => False) E | some false => (match tru S1 x with | some r => Qa r S1 | none => False) | none => False : Prop)) = fun x S1 => (match tru S1 x with | some r => (if r = true then toT wb σ S1 Qa E else Qa false S1) | none => False : Prop) := by
      funext x S1
      cases h : tru S1 x with
      | none => rfl
      | some r => cases r <;> simp [toT]
    have w' : wa σ S (fun x S1 => (match tru S1 x with | some r => (if r = true then toT wb σ S1 Qa E else Qa false S1) | none => False : Prop)) E := by rw [← ee]; exact w
    refine ⟨σ, S, fun r S1 => if r = true then toT wb σ S1 Qa E else Qa false S1, E, er, sr, w', fun r S1 H1 k1 sr1 w1 => ?_, qe⟩
    · cases r with
      | true => exact iteT ⟨σ, S1, Qa, E, er.keep k1, sr1, w1, fun r S2 H2 k2 => q r S2 H2 (k1.trans k2), qe.keep k1⟩
      | false => exact iteF (q _ _ _ k1 sr1 w1)
theorem sw_or {rest : List Expr} (ha : SEt X Z W a₀ (toT wa)) (hb : SWt X Z W (.BoolOp .Or (b₀ :: rest) pos) (toT wb)) :
    SWt X Z W (.BoolOp .Or (a₀ :: b₀ :: rest) pos) (toT fun σ S Q E => wa σ S (fun x S1 => match tru S1 x with | some true => Q x S1 | some false => wb σ S1 Q E | none => False) E) :=
  PW.imp (pw_or ha hb) fun τ H Q ⟨σ, S, Qa, E, er, sr, w, q, qe⟩ => by
    have ee : (fun (x : D) (S1 : Sto) => (match tru S1 x with | some true => (match tru S1 x with | some r => Qa r S1 | none => False) | some false => wb σ S1 (fun x S1 => match tru S1 x with | some r => Qa r S1 | none => False) E | none => False : Prop)) = fun x S1 => (match tru S1 x with | some r => (if r = true then Qa true S1 else toT wb σ S1 Qa E) | none => False : Prop) := by
      funext x S1
      cases h : tru S1 x with
      | none => rfl
      | some r => cases r <;> simp [toT]
    have w' : wa σ S (fun x S1 => (match tru S1 x with | some r => (if r = true then Qa true S1 else toT wb σ S1 Qa E) | none => False : Prop)) E := by rw [← ee]; exact w
    refine ⟨σ, S, fun r S1 => if r = true then Qa true S1 else toT wb σ S1 Qa E, E, er, sr, w', fun r S1 H1 k1 sr1 w1 => ?_, qe⟩
    · cases r with
      | true => exact iteT (q _ _ _ k1 sr1 w1)
      | false => exact iteF ⟨σ, S1, Qa, E, er.keep k1, sr1, w1, fun r S2 H2 k2 => q r S2 H2 (k1.trans k2), qe.keep k1⟩
theorem se_ite (hc : SEt X Z W c₀ (toT wc)) (ha : SE X Z W a₀ wa) (hb : SE X Z W b₀ wb) :
    SE X Z W (.IfExp c₀ a₀ b₀ pos) (fun σ S Q E => wc σ S (fun x S1 => match tru S1 x with | some true => wa σ S1 Q E | some false => wb σ S1 Q E | none => False) E) :=
  PE.imp (pe_ifExp hc ha hb) fun τ H Q ⟨σ, S, Qa, E, er, sr, w, q, qe⟩ => by
    have ee : (fun (x : D) (S1 : Sto) => (match tru S1 x with | some true => wa σ S1 Qa E | some false => wb σ S1 Qa E | none => False : Prop)) = fun x S1 => (match tru S1 x with | some r => (if r = true then wa σ S1 Qa E else wb σ S1 Qa E) | none => False : Prop) := by
      funext x S1
      cases h : tru S1 x with
      | none => rfl
      | some r => cases r <;> simp
    have w' : wc σ S (fun x S1 => (match tru S1 x with | some r => (if r = true then wa σ S1 Qa E else wb σ S1 Qa E) | none => False : Prop)) E := by rw [← ee]; exact w
    refine ⟨σ, S, fun r S1 => if r = true then wa σ S1 Qa E else wb σ S1 Qa E, E, er, sr, w', fun r S1 H1 k1 sr1 w1 => ?_, qe⟩
    · cases r with
      | true => exact iteT ⟨σ, S1, Qa, E, er.keep k1, sr1, w1, q.keep k1, qe.keep k1⟩
      | false => exact iteF ⟨σ, S1, Qa, E, er.keep k1, sr1, w1, q.keep k1, qe.keep k1⟩
/-! ### displays, subscripts, slices, fields -/
theorem sa_nil : SAs X Z W [] (fun _ S Q _ => Q [] S) := PA.imp pa_nil fun τ H Q ⟨σ, S, Qa, E, er, sr, w, q, qe⟩ => q [] [] S H (TK.refl H) sr .nil w
theorem sa_cons {es : List Expr} {ws : Env → Sto → (List D → Sto → Prop) → QX → Prop} (ha : SE X Z W a₀ wa) (hs : SAs X Z W es ws) (hst : starEach (a₀ :: es) X.env = (false, eval a₀ X.env) :: starEach es X.env) :
    SAs X Z W (a₀ :: es) (fun σ S Q E => wa σ S (fun x S1 => ws σ S1 (fun xs S2 => Q (x :: xs) S2) E) E) :=
  PA.imp (pa_cons ha hs hst) fun τ H Q ⟨σ, S, Qa, E, er, sr, w, q, qe⟩ => by
    refine ⟨σ, S, _, E, er, sr, w, fun d v S1 H1 k1 sr1 rd1 w1 => ?_, qe⟩
    exact ⟨σ, S1, _, E, er.keep k1, sr1, w1, fun ds vs S2 H2 k2 sr2 rd2 w2 => q _ _ _ _ (k1.trans k2) sr2 (.cons (rd1.keep k2) rd2) w2, qe.keep k1⟩
theorem se_tup {es : List Expr} {k : Nat} {ws : Env → Sto → (List D → Sto → Prop) → QX → Prop} (hs : SAs X Z W es ws) : SE X Z W (.Tuple es k pos) (fun σ S Q E => ws σ S (fun ds S1 => ds.length ≤ sizeLine ∧ Q (.tup ds) S1) E) :=
  PE.imp (pe_tup hs) fun τ H Q ⟨σ, S, Qa, E, er, sr, w, q, qe⟩ => ⟨σ, S, _, E, er, sr, w, fun ds vs S1 H1 k1 sr1 rd1 w1 => ⟨by rw [← rd1.length]; exact w1.1, (q.keep k1).newT sr1 rd1 w1.2⟩, qe⟩
theorem se_lst {es : List Expr} {ws : Env → Sto → (List D → Sto → Prop) → QX → Prop} (hs : SAs X Z W es ws) : SE X Z W (.List es pos) (fun σ S Q E => ws σ S (fun ds S1 => ds.length ≤ sizeLine ∧ newW (.lst ds) S1 Q) E) :=
  PE.imp (pe_lst hs) fun τ H Q ⟨σ, S, Qa, E, er, sr, w, q, qe⟩ => ⟨σ, S, _, E, er, sr, w, fun ds vs S1 H1 k1 sr1 rd1 w1 => ⟨by rw [← rd1.length]; exact w1.1, (q.keep k1).newL sr1 rd1 w1.2⟩, qe⟩
theorem se_ix (hK : Z.K = X.K) (hu : X.A.units + 190 < cLine) (ha : SE X Z W a₀ wa) (hb : SE X Z W b₀ wb) (hp : PlainIx b₀) : SE X Z W (.Subscript a₀ b₀ pos) (fun σ S Q E => wa σ S (fun x S1 => wb σ S1 (fun y S2 => ixW x y S2 Q) E) E) :=
  PE.imp (pe_ix (ixAny.ok X) ha hb hp) fun τ H Q ⟨σ, S, Qa, E, er, sr, w, q, qe⟩ => two_ok er sr w qe fun k sr rx ry h => ix_ok hK hu sr rx ry h (q.keep k)
theorem so_none : SO X Z W none (fun _ S Q _ => Q none S) := ⟨fun pins s σ H Q I ⟨_, S, Qa, E, er, sr, w, q, qe⟩ => (po_none (X := X)).run pins s σ H Q I (q none S H (TK.refl H) sr w)⟩
theorem so_some (ha : SE X Z W a₀ wa) : SO X Z W (some a₀) (fun σ S Q E => wa σ S (fun x S1 => match x with | .int i => Q (some i) S1 | _ => False) E) := ⟨fun pins s τ H Q I ⟨σ, S, Qa, E, er, sr, w, q, qe⟩ =>
  (po_some ha).run pins s τ H Q I (by
    refine ⟨σ, S, _, E, er, sr, w, fun d v S1 H1 k1 sr1 rd1 w1 => ?_, qe⟩
    dsimp only at w1
    split at w1
    · cases rd1; exact ⟨_, rfl, q _ _ _ k1 sr1 w1⟩
    · exact w1.elim)⟩
theorem se_slc {lo hi : Option Expr} {wl wh : Env → Sto → (Option Int → Sto → Prop) → QX → Prop} {p2 : Pos} (hK : Z.K = X.K) (ha : SE X Z W a₀ wa) (hl : SO X Z W lo wl) (hh : SO X Z W hi wh) :
    SE X Z W (.Subscript a₀ (.Slice lo hi none p2) pos) (fun σ S Q E => wa σ S (fun x S1 => wl σ S1 (fun l S2 => wh σ S2 (fun h S3 => slW x l h S3 Q) E) E) E) :=
  PE.imp (pe_slice (slAny.ok X) ha hl hh) fun τ H Q ⟨σ, S, Qa, E, er, sr, w, q, qe⟩ => by
    refine ⟨σ, S, _, E, er, sr, w, fun d v S1 H1 k1 sr1 rd1 w1 => ?_, qe⟩
    refine ⟨σ, S1, _, E, er.keep k1, sr1, w1, fun l S2 H2 k2 sr2 w2 => ?_, qe.keep k1⟩
    refine ⟨σ, S2, _, E, (er.keep k1).keep k2, sr2, w2, fun h S3 H3 k3 sr3 w3 => ?_, (qe.keep k1).keep k2⟩
    exact sl_ok hK sr3 ((rd1.keep k2).keep k3) w3 (((q.keep k1).keep k2).keep k3)
end
end Mini
end L2
/-! Mini, part G: calls, fields, comprehensions -/
namespace L2
namespace Mini
open PySem PySem.Spec PyProof.Rows
/-- a promise about plain data, over the abstract heap -/
def LS (Z : Nm) (sp : Spec) : Sp := fun vs H Q E => ∃ ds S Qa Ea, RDs Z H ds vs ∧ SR Z S H ∧ sp ds S Qa Ea ∧ Kq Z H Qa Q ∧
  ∀ x cls dd S' H', TK H H' → SR Z S' H' → XR Z H' x cls dd → Ea x S' → E cls dd H'
/-! ### room, frame by frame -/
/-- room for k frames more -/
structure Rm (k : Nat) (A : Around) : Prop where
  hd : A.handled = none
  dp : A.depth + k + 14 < recursionLimit
  un : A.units + 4 * k + 300 < cLine
theorem Rm.mono {j k : Nat} {A : Around} (r : Rm k A) (h : j ≤ k) : Rm j A := ⟨r.hd, by have := r.dp; omega, by have := r.un; omega⟩
theorem Rm.deeper {k : Nat} {A : Around} (r : Rm (k + 1) A) (env : PySem.Env) : Rm k (A.deeper env) :=
  ⟨r.hd, by have := r.dp; show A.depth + 1 + k + 14 < _; omega, by have := r.un; show A.units + 3 + 4 * k + 300 < _; omega⟩
theorem Rm.make {k : Nat} {A : Around} (r : Rm (k + 1) A) (C : Addr) (us : List Value) (kw : List (Str × Value)) : Rm k (A.under (.builtin "type.__call__" ⟨.ref C :: us, kw⟩)) :=
  ⟨r.hd, by have := r.dp; rw [make_depth]; omega, by have := r.un; rw [make_units]; omega⟩
theorem Rm.room {k : Nat} {A : Around} (r : Rm k A) : Room 2 A := ⟨r.hd, by have := r.dp; omega, by have := r.un; omega⟩
theorem Rm.depth {k : Nat} {A : Around} (r : Rm k A) : A.depth < recursionLimit := by have := r.dp; omega
structure FnR (P : Program) (w : World) (K : PySem.W.Frag) (mg : Str → Option Value) (base : Heap) (CX : CXT) (k : Nat) (f : Addr) (fd : FuncData) (ps : List Str) (sp : Sp) : Prop where
  len : ∀ vs H Q E, sp vs H Q E → vs.length = ps.length
  run : ∀ (A : Around) (outer : List PySem.Env) (s : Shared) (H : Hp) (args : Args) (us : List Value) (vs : List V) (Q : VK) (E : XK), Rm k A → Env0 P w K mg base A outer s H → BindsTo s fd args (ps.zip us) → Vals vs us → sp vs H Q E →
    codeAny (model P w) A (.call (.ref f) args) (CR CX outer P w H s Q E) s
theorem FnR.imp {P : Program} {w : World} {K : PySem.W.Frag} {mg : Str → Option Value} {base : Heap} {CX : CXT} {k : Nat} {f : Addr} {fd : FuncData} {ps : List Str} {sp sp' : Sp} (F : FnR P w K mg base CX k f fd ps sp)
    (h : ∀ vs H Q E, sp' vs H Q E → sp vs H Q E) : FnR P w K mg base CX k f fd ps sp' :=
  ⟨fun vs H Q E q => F.len vs H Q E (h _ _ _ _ q), fun A outer s H args us vs Q E hr he hb hv hs => F.run A outer s H args us vs Q E hr he hb hv (h _ _ _ _ hs)⟩
/-- at the top -/
theorem FnR.top {P : Program} {w : World} {K : PySem.W.Frag} {mg : Str → Option Value} {base : Heap} {CX : CXT} {j k : Nat} {f : Addr} {fd : FuncData} {ps : List Str} {sp : Sp} (F : FnR P w K mg base CX j f fd ps sp) (h : j + 9 ≤ 3 * k) (h2 : 25 ≤ k) : FnOk P w K mg base CX k f fd ps sp :=
  ⟨F.len, fun A outer s H args us vs Q E hr => F.run A outer s H args us vs Q E ⟨hr.hd, by have := hr.dp; omega, by have := hr.un; omega⟩⟩
theorem fnr_of {CX : CXT} {P : Program} {w : World} {K : PySem.W.Frag} {mg : Str → Option Value} {base : Heap} {k : Nat} {f : Addr} {name qual : Str} {params : Arguments} {body : List Stmt} {scope : Scope} {dV kV doc pm cdv ct oc : Value} {an od : Option Addr}
    {osl : Array (Option Value)} {N ps : List Str} {sp : Sp} (lk : K.lookup f = some ⟨oc, od, .func (PySem.W.fnOf name qual params body scope dV kV doc pm an cdv ct), osl⟩) (hcd : PySem.W.codeIn K cdv qual = true) (S : FnScope N ps scope)
    (len : ∀ vs H Q E, sp vs H Q E → vs.length = ps.length)
    (hbody : ∀ (A : Around) (outer : List PySem.Env) (s : Shared) (H : Hp) (vs : List V) (Q : VK) (E : XK), Rm k (A.deeper (envOfC qual scope s.heap.objs.size f cdv)) → sp vs H Q E →
      ∃ t, PSs (cxOf CX P w K mg base N qual scope f cdv A outer s H E) body t ∧ t { nx := fun _ H' => Q .non H', rt := Q } (start N vs) H) :
    FnR P w K mg base CX (k + 1) f (PySem.W.fnOf name qual params body scope dV kV doc pm an cdv ct) ps sp := by
  refine ⟨len, fun A outer s H args us vs Q E hr e0 hb r hsp => ?_⟩
  have hl := len _ _ _ _ hsp
  have KX : K.In s.heap := e0.mod.kin.keeps fun b o e => (e0.bs b o e).1
  have lim : s.heap.NoLimit := e0.mod.nolimit.keeps fun b o e => (e0.bs b o e).1
  have hkind : ∀ y ∈ ps.zip us, scope.names.lookup y.1 = some .local ∨ (scope.names.lookup y.1 = some .cell ∧ ((cellsFrom (s.heap.objs.size + 1) scope.names []).lookup y.1).isSome = true) := fun ⟨n, v⟩ hy => by
    rcases S.par n (List.of_mem_zip hy).1 with q | q
    · exact .inl q
    · exact .inr ⟨q, PySem.W.cellsFrom_some _ _ _ (.inl q)⟩
  refine codeAny_call_function hr.depth (KX _ _ lk) rfl S.co S.gen rfl (PySem.W.codeRec_of KX hcd) (hb _ _ _ _ ?_)
  refine wpAny_newFunctionEnv_cells S.kind hkind fun env he s1 x => ?_
  subst he
  refine ⟨lim.keeps x.toInCall.keep, codeAny_func ?_⟩
  obtain ⟨t, ht, hq⟩ := hbody A outer s H vs Q E (hr.deeper _) hsp
  have I : Inv (cxOf CX P w K mg base N qual scope f cdv A outer s H E) [] (start N vs) H s1 := inv_start S hr.hd e0 hl r x
  refine wpAny_mono (ht.run [] s1 (start N vs) H _ I hq) (fun fl s' hs => ?_) fun e s' hs => hs
  have fin : ∀ {σ' : St} {H' : Hp} {v : V} {u : Value}, Inv (cxOf CX P w K mg base N qual scope f cdv A outer s H E) [] σ' H' s' → RelV v u → Q v H' → CE outer P w H s Q u s' :=
    fun {σ' H' v u} J rv q => ⟨v, H', J.os, J.bare, J.base, J.hok, rv, q⟩
  cases fl with
  | ret u =>
    obtain ⟨v, σ', H', J, rv, q⟩ := hs
    exact fin J rv q
  | next =>
    obtain ⟨σ', H', J, q⟩ := hs
    exact fin (v := V.non) (u := Value.none) J rfl q
  | brk =>
    obtain ⟨_, _, _, q⟩ := hs
    exact False.elim q
  | cont =>
    obtain ⟨_, _, _, q⟩ := hs
    exact False.elim q
theorem Fun.okR {P : Program} {w : World} {K : PySem.W.Frag} {mg : Str → Option Value} {base : Heap} {x qual : Str} {st : Stmt} {f : Addr} {fd : FuncData} {N ps : List Str} {k : Nat} {sp : Sp} (F : Fun K x qual st f fd) (S : FnScope N ps (defScope st)) (len : ∀ vs H Q E, sp vs H Q E → vs.length = ps.length)
    (hbody : ∀ (cdv : Value) (A : Around) (outer : List PySem.Env) (s : Shared) (H : Hp) (vs : List V) (Q : VK) (E : XK), Rm k (A.deeper (envOfC qual (defScope st) s.heap.objs.size f cdv)) → sp vs H Q E →
      ∃ t, PSs (cxOf (L2.CX P w) P w K mg base N qual (defScope st) f cdv A outer s H E) (defBody st) t ∧ t { nx := fun _ H' => Q .non H', rt := Q } (start N vs) H) : FnR P w K mg base (L2.CX P w) (k + 1) f fd ps sp := by
  obtain ⟨oc, od, kV, doc, pm, an, cdv, ct, osl, rfl, lk, hcd⟩ := F.ex
  exact fnr_of lk hcd S len fun A outer s H vs Q E hr hsp => hbody cdv A outer s H vs Q E hr hsp
section
variable {X : Cx} {CX : CXT} {k : Nat} {f C : Addr} {fd : FuncData} {ps : List Str} {sp : Sp}
theorem run_fnR {E : St → XK} {pins : List (Addr × Obj)} {σ : St} {H : Hp} {s : Shared} {Q : VK} {us : List Value} {vs : List V} (F : FnR X.prog X.w X.K X.mg X.base CX k f fd ps sp) (hr : Rm k X.A) (hb : Binds X.K fd ps []) (hx : PassesAt CX X σ (E σ))
    (I : Inv X pins σ H s) (r : Vals vs us) (h : sp vs H Q (E σ)) : wpAny (model X.prog X.w) X.A (PySem.call (.ref f) us) (EP X pins σ Q) X.xe s := by
  have hl : us.length = ps.length := by rw [← r.length]; exact F.len _ _ _ _ h
  have b := hb s us I.kIn (by rw [List.append_nil]; exact hl)
  rw [List.append_nil] at b
  refine wpAny_call (codeAny_mono (F.run X.A X.stack s H ⟨us, []⟩ us vs Q (E σ) hr I.env0 b r h) fun r s' hq => ?_)
  cases r with
  | error e => exact hx pins H s e s' I hq
  | ok fl =>
    cases fl with
    | ret u => exact I.after hq
    | next => exact False.elim hq
    | brk => exact False.elim hq
    | cont => exact False.elim hq
theorem run_makeR {E : XK} {pins : List (Addr × Obj)} {σ : St} {H : Hp} {s : Shared} {Q : VK} {us : List Value} {vs : List V} (M : Mk X.K C f) (F : FnR X.prog X.w X.K X.mg X.base CX k f fd ps sp) (hr : Rm (k + 1) X.A) (hb : Binds X.K fd ps [])
    (hx : Passes CX X E) (I : Inv X pins σ H s) (r : Vals vs us)
    (h : ∀ x dx, H x = none → H dx = none → dx ≠ x → sp (.ref x :: vs) (upd (upd H dx (.own x)) x (.ins C dx [])) (fun v H2 => v = .non ∧ Q (.ref x) H2) E) :
    wpAny (model X.prog X.w) X.A (PySem.call (.ref C) us) (EP X pins σ Q) X.xe s := by
  have hq := h (s.heap.objs.size + 1) s.heap.objs.size (I.hok.fresh (Nat.le_succ _)) (I.hok.fresh (Nat.le_refl _)) (Nat.ne_of_lt (Nat.lt_succ_self _))
  have I2 := Inv.made (C := C) I
  have r2 : Vals (V.ref (s.heap.objs.size + 1) :: vs) (Value.ref (s.heap.objs.size + 1) :: us) := .cons rfl r
  have hl : (Value.ref (s.heap.objs.size + 1) :: us).length = ps.length := by
    have e := r2.length
    rw [F.len _ _ _ _ hq] at e
    exact e.symm
  have b := hb { s with heap := (s.heap.push PySem.W.emptyDict).push (PySem.W.instObj C s.heap.objs.size) } (Value.ref (s.heap.objs.size + 1) :: us) I2.kIn (by rw [List.append_nil]; exact hl)
  rw [List.append_nil] at b
  refine wpAny_call (make_map (f := f) I.kIn M.makes M.init (beq_iff_eq.mp M.fn) (codeAny_mono (F.run _ X.stack _ _ ⟨Value.ref (s.heap.objs.size + 1) :: us, []⟩ (Value.ref (s.heap.objs.size + 1) :: us) _ _ E (hr.make C us [])
    (I2.env0.make C us []) b r2 hq) fun r s' hq' => ?_))
  cases r with
  | error e => exact hx pins σ _ _ e s' I2 hq'
  | ok fl =>
    cases fl with
    | ret u =>
      obtain ⟨v, H', I3, rv, ev, q3⟩ := I2.after hq'
      subst ev
      exact ⟨rv, ⟨V.ref (s.heap.objs.size + 1), H', I3, rfl, q3⟩⟩
    | next => exact False.elim hq'
    | brk => exact False.elim hq'
    | cont => exact False.elim hq'
end
/-- what is known of the defs and classes, with room for k calls -/
structure Fx (P : Program) (w : World) (K : PySem.W.Frag) (mg : Str → Option Value) (base : Heap) (A : Around) (Z : Nm) (G : Gam) (k : Nat) : Prop where
  zk : Z.K = K
  room : Rm k A
  fn : ∀ i ds S Q E, G.fn i ds S Q E → ∃ fd ps, FnR P w K mg base (L2.CX P w) k (Z.fa i) fd ps (LS Z (G.fn i)) ∧ Binds K fd ps [] ∧ PySem.W.keepIn K (.ref (Z.fa i)) = true
  cls : ∀ c, c < Z.nc → Cls K (Z.cla c)
  na : ∀ c f, c < Z.nc → f < Z.nf → NoAttr K (Z.cla c) (Z.fld f)
  mth : ∀ c m i, G.mt c m = some i → Meth K (Z.cla c) (Z.mn m) (Z.fa i)
  mnf : ∀ c m i, G.mt c m = some i → ∀ f, f < Z.nf → Z.fld f ≠ Z.mn m
  ini : ∀ c ds S Q E, G.ini c ds S Q E → c < Z.nc ∧ ∃ fI fd ps j, Mk K (Z.cla c) fI ∧ FnR P w K mg base (L2.CX P w) j fI fd ps (LS Z (G.ini c)) ∧ Binds K fd ps [] ∧ j + 1 ≤ k
abbrev FX (X : Cx) (Z : Nm) (G : Gam) (k : Nat) : Prop := Fx X.prog X.w X.K X.mg X.base X.A Z G k
theorem Fx.hu {P : Program} {w : World} {K : PySem.W.Frag} {mg : Str → Option Value} {base : Heap} {A : Around} {Z : Nm} {G : Gam} {k : Nat} (F : Fx P w K mg base A Z G k) : A.units + 190 < cLine := by
  have := F.room.un; omega
section
variable {X : Cx} {Z : Nm} {G : Gam} {k : Nat} {W : WX} {a₀ b₀ c₀ e₀ : Expr} {es₀ : List Expr} {wa wb wc : WE0} {ws : Env → Sto → (List D → Sto → Prop) → QX → Prop} {pos apos p : Pos}
/-- the callee runs, by its promise over plain data -/
theorem run_ls (F : FX X Z G k) (tk : Takes X W) {pins : List (Addr × Obj)} {τ : St} {H : Hp} {s : Shared} {Q : VK} {us : List Value} {vs : List V} {ds : List D} {S : Sto} {Qa : QD} {E : QX} {i : Nat} (I : Inv X pins τ H s) (r : Vals vs us) (rd : RDs Z H ds vs) (sr : SR Z S H)
    (h : G.fn i ds S Qa E) (q : Kq Z H Qa Q) (qe : Kx Z W τ H E) : PySem.W.keepIn X.K (.ref (Z.fa i)) = true ∧ wpAny (model X.prog X.w) X.A (PySem.call (.ref (Z.fa i)) us) (EP X pins τ Q) X.xe s := by
  obtain ⟨fd, ps, ok, hb, kp⟩ := F.fn _ _ _ _ _ h
  exact ⟨kp, run_fnR (E := WE W) ok F.room hb (passAt tk τ) I r ⟨ds, S, Qa, E, rd, sr, h, q, qe⟩⟩
/-- f(..) of a global name -/
theorem se_call {x : Str} {i : Nat} (F : FX X Z G k) (tk : Takes X W) (hg : Gl X x) (hm : X.mg x = some (.ref (Z.fa i))) (kp : PySem.W.keepIn X.K (.ref (Z.fa i)) = true) (hdb : (x == ("__debug__" : Str)) = false) (ha : SAs X Z W (e₀ :: es₀) ws)
    (he : starEach (e₀ :: es₀) X.env = (false, eval e₀ X.env) :: starEach es₀ X.env) (hpl : (backTo pos (starEach es₀ X.env)).any (·.1) = false) :
    SE X Z W (.Call (.Name x p) (e₀ :: es₀) [] pos) (fun σ S Q E => ws σ S (fun ds S1 => G.fn i ds S1 Q E) E) := by
  refine ⟨fun pins s τ H Q I ⟨σ, S, Qa, E, er, sr, w, q, qe⟩ => ?_⟩
  refine wpAny_Call_Name_kw (ld_glob I hg hm ?_ hdb)
  refine PySem.W.callWith_K (h₀ := X.base) I.ok.mod.kin kp (thn (ha.run pos pins s τ H _ I ⟨σ, S, _, E, er, sr, w, fun ds vs S1 H1 k1 sr1 rd1 w1 => (⟨k1, ds, S1, sr1, rd1, w1⟩ : TK H H1 ∧ ∃ ds S1, SR Z S1 H1 ∧ RDs Z H1 ds vs ∧ G.fn i ds S1 Qa E), qe⟩) fun us s1 ⟨vs, H1, I1, r1, k1, ds, S1, sr1, rd1, w1⟩ => ⟨I1.kIn, ?_⟩) he hpl
  exact (run_ls F tk I1 r1 rd1 sr1 w1 (q.keep k1) (qe.keep k1)).2
theorem se_call0 {x : Str} {i : Nat} (F : FX X Z G k) (tk : Takes X W) (hg : Gl X x) (hm : X.mg x = some (.ref (Z.fa i))) (kp : PySem.W.keepIn X.K (.ref (Z.fa i)) = true) (hdb : (x == ("__debug__" : Str)) = false) :
    SE X Z W (.Call (.Name x p) [] [] pos) (fun σ S Q E => G.fn i [] S Q E) := by
  refine ⟨fun pins s τ H Q I ⟨σ, S, Qa, E, er, sr, w, q, qe⟩ => ?_⟩
  refine wpAny_Call_Name_kw (ld_glob I hg hm ?_ hdb)
  exact PySem.W.callWith_K0 I.kIn kp (run_ls F tk I .nil .nil sr w q qe).2
/-- a call of a name of the def that holds a def -/
theorem se_callv {x : Str} {j : Nat} (F : FX X Z G k) (tk : Takes X W) (hN : X.N[j]? = some x) (hv : Vis X.env.scope x) (hd : (x == ("__debug__" : Str)) = false) (hcd : (x == ("__classdict__" : Str)) = false) (kp : ∀ i, i < G.nfn → PySem.W.keepIn X.K (.ref (Z.fa i)) = true) (ha : SAs X Z W (e₀ :: es₀) ws)
    (he : starEach (e₀ :: es₀) X.env = (false, eval e₀ X.env) :: starEach es₀ X.env) (hpl : (backTo pos (starEach es₀ X.env)).any (·.1) = false) :
    SE X Z W (.Call (.Name x p) (e₀ :: es₀) [] pos) (fun σ S Q E => match σ.get j with | some (.fn f) => f < G.nfn ∧ ws σ S (fun ds S1 => G.fn f ds S1 Q E) E | _ => False) := by
  refine ⟨fun pins s τ H Q I ⟨σ, S, Qa, E, er, sr, w, q, qe⟩ => ?_⟩
  dsimp only at w
  split at w
  · rename_i f e
    obtain ⟨v, h1, h2⟩ := er.2 j _ e
    cases h2
    refine wpAny_Call_Name_kw (thn ((pe_var (pos := p) hN hv hd hcd).run pins s τ H (fun v H1 => v = .ref (Z.fa f) ∧ H1 = H) I ⟨_, h1, rfl, rfl⟩) fun u s1 ⟨v, H1, I1, r1, q1⟩ => ?_)
    obtain ⟨rfl, rfl⟩ := q1
    cases r1
    refine PySem.W.callWith_K (h₀ := X.base) I.ok.mod.kin (kp f w.1) (thn (ha.run pos pins s1 τ _ _ I1 ⟨σ, S, _, E, er, sr, w.2, fun ds vs S1 H2 k1 sr1 rd1 w1 => (⟨k1, ds, S1, sr1, rd1, w1⟩ : TK _ H2 ∧ ∃ ds S1, SR Z S1 H2 ∧ RDs Z H2 ds vs ∧ G.fn f ds S1 Qa E), qe⟩) fun us s2 ⟨vs, H2, I2, r2, k1, ds, S1, sr1, rd1, w1⟩ => ⟨I2.kIn, ?_⟩) he hpl
    exact (run_ls F tk I2 r2 rd1 sr1 w1 (q.keep k1) (qe.keep k1)).2
  · exact w.elim
/-- a built-in function, a built-in class -/
def biTy : Bi → Bool
  | .int | .tuple | .list | .str => true
  | _ => false
theorem se_bi {x : Str} {b : Bi} (F : FX X Z G k) (hc : X.calm = true) (hg : Gl X x) (hm : X.mg x = none) (hv : bootBuiltins x = some (biF b)) (ha : SAs X Z W (e₀ :: es₀) ws) (hn : x ≠ "__name__") (hdb : (x == ("__debug__" : Str)) = false)
    (hF : (∃ id, biF b = .builtin id) ∨ ∃ T, biF b = .type T)
    (he : starEach (e₀ :: es₀) X.env = (false, eval e₀ X.env) :: starEach es₀ X.env) (hpl : (backTo pos (starEach es₀ X.env)).any (·.1) = false) :
    SE X Z W (.Call (.Name x p) (e₀ :: es₀) [] pos) (fun σ S Q E => ws σ S (fun ds S1 => biW b ds S1 Q) E) := by
  have go : ∀ {τ : St} {H : Hp} {Q : VK}, TEx Z W (fun σ S Q E => ws σ S (fun ds S1 => biW b ds S1 Q) E) τ H Q → tCB (cAny X (biF b)) (TAx Z W ws) τ H Q := fun {τ H Q} ⟨σ, S, Qa, E, er, sr, w, q, qe⟩ =>
    ⟨σ, S, _, E, er, sr, w, fun ds vs S1 H1 k1 sr1 rd1 w1 => bi_ok F.zk hc sr1 rd1 w1 (q.keep k1), qe⟩
  rcases hF with ⟨id, e⟩ | ⟨T, e⟩
  · exact PE.imp (pe_callB (id := id) (r := cAny X (biF b)) (by rw [← e]; exact cAny.ok X _) hg hm (by rw [← e]; exact hv) ha hn hdb he hpl) fun τ H Q h => go h
  · exact PE.imp (pe_callTy (T := T) (r := cAny X (biF b)) (by rw [← e]; exact cAny.ok X _) hg hm (by rw [← e]; exact hv) ha hn hdb he hpl) fun τ H Q h => go h
/-! ### fields, methods, new instances -/
theorem insAt {S : Sto} {H : Hp} {a : Addr} {c : Nat} {fs : List (Nat × D)} (sr : SR Z S H) (e : S a = some (.ins c fs)) : c < Z.nc ∧ ∃ dx gs, H a = some (.ins (Z.cla c) dx gs) ∧ RF Z H fs gs := sr a _ e
theorem se_att {f : Nat} {x : Str} (F : FX X Z G k) (hf : f < Z.nf) (hx : x = Z.fld f) (ha : SE X Z W a₀ wa) (hb : attributeBase a₀ x X.env (eval a₀ X.env) = eval a₀ X.env) :
    SE X Z W (.Attribute a₀ x pos) (fun σ S Q E => wa σ S (fun x S1 => match x with | .ref p => (match S1 p with | some (.ins _ fs) => (match fget fs f with | some d => Q d S1 | none => False) | _ => False) | _ => False) E) := by
  subst hx
  refine PE.imp (pe_fld ha hb) fun τ H Q ⟨σ, S, Qa, E, er, sr, w, q, qe⟩ => ?_
  refine ⟨σ, S, _, E, er, sr, w, fun d v S1 H1 k1 sr1 rd1 w1 => ?_, qe⟩
  dsimp only at w1
  split at w1
  · cases rd1
    split at w1
    · rename_i e
      split at w1
      · rename_i d e2
        obtain ⟨n, dx, gs, h1, rf⟩ := insAt sr1 e
        obtain ⟨v, h2, h3⟩ := rf.get f hf e2
        exact ⟨_, _, dx, gs, v, rfl, h1, F.cls _ n, F.na _ _ n hf, h2, (q.keep k1).pure sr1 h3 w1⟩
      · exact w1.elim
    · exact w1.elim
  · exact w1.elim
/-- o.m(..), a def of the class -/
theorem se_mth {m : Nat} {x : Str} {pl : Sem Bool} (F : FX X Z G k) (tk : Takes X W) (hx : x = Z.mn m) (ho : SE X Z W a₀ wa) (ha : SAs X Z W (e₀ :: es₀) ws)
    (hst : starEach (e₀ :: es₀) X.env = (false, eval e₀ X.env) :: starEach es₀ X.env) (hpl : (backTo pos (starEach es₀ X.env)).any (·.1) = false)
    (ht : eval (.Call (.Attribute a₀ x apos) (e₀ :: es₀) [] pos) X.env = (do
      let ov ← eval a₀ X.env
      standAt apos.atName
      let (f, first) ← holding [ov] (getMethod ov x pl)
      callWith pos f first (backTo pos (starEach (e₀ :: es₀) X.env)) (backToKw pos (keywordEach [] X.env)))) :
    SE X Z W (.Call (.Attribute a₀ x apos) (e₀ :: es₀) [] pos) (fun σ S Q E => wa σ S (fun x S1 => match x with | .ref p => (match S1 p with | some (.ins c fs) => (match G.mt c m with | some f => ws σ S1 (fun ds S2 => G.fn f (x :: ds) S2 Q E) E | none => False) | _ => False) | _ => False) E) := by
  subst hx
  refine ⟨fun pins s τ H Q I ⟨σ, S, Qa, E, er, sr, w, q, qe⟩ => ?_⟩
  refine PySem.W.methodCall_KW (pl := pl) (thn (ho.run pins s τ H (fun v H1 => TK H H1 ∧ ∃ d S1, SR Z S1 H1 ∧ RD Z H1 d v ∧ (match d with | .ref p => (match S1 p with | some (.ins c fs) => (match G.mt c m with | some f => ws σ S1 (fun ds S2 => G.fn f (d :: ds) S2 Qa E) E | none => False) | _ => False) | _ => False)) I
    ⟨σ, S, _, E, er, sr, w, fun d v S1 H1 k1 sr1 rd1 w1 => ⟨k1, d, S1, sr1, rd1, w1⟩, qe⟩) fun u s1 ⟨v, H1, I1, rv, k1, d, S1, sr1, rd1, w1⟩ => ?_) ht
  split at w1
  · rename_i a
    cases rd1
    split at w1
    · rename_i c fs e
      split at w1
      · rename_i i em
        obtain ⟨n, dx, gs, h1, rf⟩ := insAt sr1 e
        cases rv
        have M := F.mth _ _ _ em
        refine getmeth_ok I1 h1 (F.cls _ n) M (rf.none _ (F.mnf _ _ _ em)) ?_
        refine PySem.W.callWith_K (first := [.ref a]) (h₀ := X.base) I.ok.mod.kin M.kp (thn (ha.run pos pins s1 τ H1 _ I1 ⟨σ, S1, _, E, er.keep k1, sr1, w1, fun ds vs S2 H2 k2 sr2 rd2 w2 => (⟨k2, ds, S2, sr2, rd2, w2⟩ : TK H1 H2 ∧ ∃ ds S2, SR Z S2 H2 ∧ RDs Z H2 ds vs ∧ G.fn i (.ref a :: ds) S2 Qa E), qe.keep k1⟩) fun us s2 ⟨vs, H2, I2, r2, k2, ds, S2, sr2, rd2, w2⟩ => ⟨I2.kIn, ?_⟩) hst hpl
        exact (run_ls F tk (us := .ref a :: us) (vs := .ref a :: vs) (ds := .ref a :: ds) I2 (.cons rfl r2) (.cons .ref rd2) sr2 w2 (q.keep (k1.trans k2)) (qe.keep (k1.trans k2))).2
      · exact w1.elim
    · exact w1.elim
  · exact w1.elim
theorem se_mth0 {m : Nat} {x : Str} {pl : Sem Bool} (F : FX X Z G k) (tk : Takes X W) (hx : x = Z.mn m) (ho : SE X Z W a₀ wa)
    (ht : eval (.Call (.Attribute a₀ x apos) [] [] pos) X.env = (do
      let ov ← eval a₀ X.env
      standAt apos.atName
      let (f, first) ← holding [ov] (getMethod ov x pl)
      callWith pos f first (backTo pos (starEach [] X.env)) (backToKw pos (keywordEach [] X.env)))) :
    SE X Z W (.Call (.Attribute a₀ x apos) [] [] pos) (fun σ S Q E => wa σ S (fun x S1 => match x with | .ref p => (match S1 p with | some (.ins c fs) => (match G.mt c m with | some f => G.fn f [x] S1 Q E | none => False) | _ => False) | _ => False) E) := by
  subst hx
  refine ⟨fun pins s τ H Q I ⟨σ, S, Qa, E, er, sr, w, q, qe⟩ => ?_⟩
  refine PySem.W.methodCall_KW (pl := pl) (thn (ho.run pins s τ H (fun v H1 => TK H H1 ∧ ∃ d S1, SR Z S1 H1 ∧ RD Z H1 d v ∧ (match d with | .ref p => (match S1 p with | some (.ins c fs) => (match G.mt c m with | some f => G.fn f [d] S1 Qa E | none => False) | _ => False) | _ => False)) I
    ⟨σ, S, _, E, er, sr, w, fun d v S1 H1 k1 sr1 rd1 w1 => ⟨k1, d, S1, sr1, rd1, w1⟩, qe⟩) fun u s1 ⟨v, H1, I1, rv, k1, d, S1, sr1, rd1, w1⟩ => ?_) ht
  split at w1
  · rename_i a
    cases rd1
    split at w1
    · rename_i c fs e
      split at w1
      · rename_i i em
        obtain ⟨n, dx, gs, h1, rf⟩ := insAt sr1 e
        cases rv
        have M := F.mth _ _ _ em
        refine getmeth_ok I1 h1 (F.cls _ n) M (rf.none _ (F.mnf _ _ _ em)) ?_
        exact PySem.W.callWith_K0 (first := [.ref a]) I1.kIn M.kp (run_ls F tk (us := [.ref a]) (vs := [.ref a]) (ds := [.ref a]) I1 (.cons rfl .nil) (.cons .ref .nil) sr1 w1 (q.keep k1) (qe.keep k1)).2
      · exact w1.elim
    · exact w1.elim
  · exact w1.elim
end
end Mini
end L2
/-! Mini, part H: chains, isinstance, built-in methods, new instances, what loops go over -/
namespace L2
namespace Mini
open PySem PySem.Spec PyProof.Rows
section
variable {X : Cx} {Z : Nm} {G : Gam} {k : Nat} {W : WX} {a₀ b₀ c₀ e₀ : Expr} {es₀ : List Expr} {wa wb wc : WE0} {ws : Env → Sto → (List D → Sto → Prop) → QX → Prop} {pos apos p : Pos}
/-- the word of a chain of two comparisons -/
def chnW (o1 o2 : Cop) (wa wb wc : WE0) : WE0 := fun σ S Q E => wa σ S (fun x S1 => wb σ S1 (fun y S2 => cmpW o1 x y S2 (fun r S3 => match r with | .bl true => wc σ S3 (fun z S4 => cmpW o2 y z S4 Q) E | .bl false => Q (.bl false) S3 | _ => False)) E) E
theorem chn_core {o1 o2 : Cop} (F : FX X Z G k) {τ : St} {H : Hp} {Q : VK} {σ : Env} {S : Sto} {Qa : QD} {E : QX} (er : ER Z H σ τ) (sr : SR Z S H) (w : chnW o1 o2 wa wb wc σ S Qa E) (qe : Kx Z W τ H E)
    (q : ∀ r v S' H', TK H H' → SR Z S' H' → RD Z H' (.bl r) v → Qa (.bl r) S' → Q v H') : tChain (rAny X (compareOp (copOf o1))) (rAny X (compareOp (copOf o2))) (TEx Z W wa) (TEx Z W wb) (TEx Z W wc) τ H Q := by
  refine two_ok er sr w qe fun {S2 H2 x y v u} k2 sr2 rx ry h => ?_
  refine cmp_ok F.zk F.hu sr2 rx ry (cmpW_bl h) fun d z S3 H3 k3 sr3 rd3 h3 => ?_
  obtain ⟨r, e, h3⟩ := h3
  subst e
  cases rd3
  refine ⟨r, rfl, ?_⟩
  cases r with
  | false => exact iteF (q _ _ _ _ (k2.trans k3) sr3 .bl h3)
  | true =>
    refine iteT ⟨σ, S3, _, E, (er.keep k2).keep k3, sr3, h3, fun d4 v4 S4 H4 k4 sr4 rd4 w4 => ?_, (qe.keep k2).keep k3⟩
    refine cmp_ok F.zk F.hu sr4 ((ry.keep k3).keep k4) rd4 (cmpW_bl w4) fun d5 v5 S5 H5 k5 sr5 rd5 h5 => ?_
    obtain ⟨r5, e5, h5⟩ := h5
    subst e5
    exact q _ _ _ _ (((k2.trans k3).trans k4).trans k5) sr5 rd5 h5
theorem se_chn {o1 o2 : Cop} (F : FX X Z G k) (ha : SE X Z W a₀ wa) (hb : SE X Z W b₀ wb) (hc : SE X Z W c₀ wc) (hm : lastMarks [copOf o1, copOf o2] [b₀, c₀] = false) : SE X Z W (.Compare a₀ [copOf o1, copOf o2] [b₀, c₀] pos) (chnW o1 o2 wa wb wc) :=
  PE.imp (pe_chain (rAny.ok X _) (rAny.ok X _) ha hb hc hm) fun τ H Q ⟨σ, S, Qa, E, er, sr, w, q, qe⟩ => chn_core F er sr w qe fun r v S' H' k sr' rd' h => q _ _ _ _ k sr' rd' h
theorem st_chn {o1 o2 : Cop} (F : FX X Z G k) (ha : SE X Z W a₀ wa) (hb : SE X Z W b₀ wb) (hc : SE X Z W c₀ wc) (hm : lastMarks [copOf o1, copOf o2] [b₀, c₀] = false) : SEt X Z W (.Compare a₀ [copOf o1, copOf o2] [b₀, c₀] pos) (toT (chnW o1 o2 wa wb wc)) :=
  PT.imp (pt_chain (rAny.ok X _) (rAny.ok X _) ha hb hc hm) fun τ H Q ⟨σ, S, Qa, E, er, sr, w, q, qe⟩ => chn_core F er sr w qe fun r v S' H' k sr' rd' h => by
    cases rd'
    exact ⟨r, rfl, q _ _ _ k sr' h⟩
/-! ### isinstance -/
def tyName : Ty → String
  | .int => "int" | .bool => "bool" | .str => "str" | .tuple => "tuple" | .list => "list" | .exc _ => ""
/-- one type for all that isinstance asks -/
theorem isi_tys {K : PySem.W.Frag} {S : Sto} {H : Hp} {x : D} {v : V} {t0 : Ty} {r0 : Bool} (hK : Z.K = K) (sr : SR Z S H) (rx : RD Z H x v) (h0 : isiW x t0 S = some r0) :
    ∃ ty, TyX K H v ty ∧ ∀ t r, isiW x t S = some r → PySem.W.kitOne K ty (.type (tyName t)) = some r := by
  have tup : ∀ {ds : List D} {v : V}, RD Z H (.tup ds) v → TyX K H v (.type "tuple") := fun r => by
    cases r with
    | tup t rs =>
      rcases t with t | ⟨o, its, n, e, c, _⟩
      · exact .base (.tup t)
      · exact .kTuple (by rw [← hK]; exact e) c
  cases x with
  | non => cases rx; refine ⟨_, .base .non, fun t r h => kit_ty ?_⟩; cases t <;> simp only [isiW] at h <;> first | (cases h; decide +kernel) | cases h
  | bl b => cases rx; refine ⟨_, .base (.bl _), fun t r h => kit_ty ?_⟩; cases t <;> simp only [isiW] at h <;> first | (cases h; decide +kernel) | cases h
  | int i => cases rx; refine ⟨_, .base (.int _), fun t r h => kit_ty ?_⟩; cases t <;> simp only [isiW] at h <;> first | (cases h; decide +kernel) | cases h
  | str l => cases rx; refine ⟨_, .base (.str _), fun t r h => kit_ty ?_⟩; cases t <;> simp only [isiW] at h <;> first | (cases h; decide +kernel) | cases h
  | tup ds => refine ⟨_, tup rx, fun t r h => kit_ty ?_⟩; cases t <;> simp only [isiW] at h <;> first | (cases h; decide +kernel) | cases h
  | fn f => cases t0 <;> simp only [isiW] at h0 <;> cases h0
  | ref a =>
    cases rx
    cases e : S a with
    | none => cases t0 <;> simp only [isiW, e] at h0 <;> cases h0
    | some c =>
      cases c with
      | lst ds =>
        obtain ⟨vs, h1, _⟩ := lstAt sr e
        refine ⟨_, .base (.lst h1), fun t r h => kit_ty ?_⟩; cases t <;> simp only [isiW, e] at h <;> first | (cases h; decide +kernel) | cases h
      | fls ds =>
        obtain ⟨o, vs, h1, _⟩ := sr _ _ e
        refine ⟨_, .base (.frz h1), fun t r h => kit_ty ?_⟩; cases t <;> simp only [isiW, e] at h <;> first | (cases h; decide +kernel) | cases h
      | dct ds =>
        obtain ⟨vs, h1, _⟩ := sr _ _ e
        refine ⟨_, .base (.dK h1), fun t r h => kit_ty ?_⟩; cases t <;> simp only [isiW, e] at h <;> first | (cases h; decide +kernel) | cases h
      | ins c fs => cases t0 <;> simp only [isiW, e] at h0 <;> cases h0
theorem isi_ty {K : PySem.W.Frag} {S : Sto} {H : Hp} {x : D} {v : V} {t : Ty} {r : Bool} (hK : Z.K = K) (sr : SR Z S H) (rx : RD Z H x v) (h : isiW x t S = some r) : ∃ ty, TyX K H v ty ∧ PySem.W.kitOne K ty (.type (tyName t)) = some r :=
  let ⟨ty, h1, h2⟩ := isi_tys hK sr rx h; ⟨ty, h1, h2 t r h⟩
/-- two classes: one type -/
theorem isi_ty2 {K : PySem.W.Frag} {S : Sto} {H : Hp} {x : D} {v : V} {t u : Ty} {r q : Bool} (hK : Z.K = K) (sr : SR Z S H) (rx : RD Z H x v) (h : isiW x t S = some r) (h2 : isiW x u S = some q) :
    ∃ ty, TyX K H v ty ∧ PySem.W.kitOne K ty (.type (tyName t)) = some r ∧ PySem.W.kitOne K ty (.type (tyName u)) = some q :=
  let ⟨ty, h3, h4⟩ := isi_tys hK sr rx h; ⟨ty, h3, h4 t r h, h4 u q h2⟩
theorem se_isi {xT : Str} {t : Ty} {pT : Pos} (F : FX X Z G k) (hg : Gl X "isinstance") (hm : X.mg "isinstance" = none) (hgT : Gl X xT) (hmT : X.mg xT = none) (hvT : bootBuiltins xT = some (.type (tyName t))) (hn : xT ≠ "__name__") (hdb : (xT == ("__debug__" : Str)) = false)
    (ha : SE X Z W a₀ wa) (he : starEach [a₀, .Name xT pT] X.env = (false, eval a₀ X.env) :: starEach [.Name xT pT] X.env) (hv : bootBuiltins "isinstance" = some (.builtin "isinstance")) :
    SE X Z W (.Call (.Name "isinstance" p) [a₀, .Name xT pT] [] pos) (fun σ S Q E => wa σ S (fun x S1 => match isiW x t S1 with | some r => Q (.bl r) S1 | none => False) E) := by
  have hT : PE X (.Name xT pT) (tC (.ty (tyName t))) := pe_bltn hgT hmT hvT rfl hn hdb
  refine PE.imp (pe_callB call_isi hg hm hv (pa_cons ha (pa_cons hT pa_nil) he) (by decide) (by decide) he) fun τ H Q ⟨σ, S, Qa, E, er, sr, w, q, qe⟩ => ?_
  refine ⟨σ, S, _, E, er, sr, w, fun d v S1 H1 k1 sr1 rd1 w1 => ?_, qe⟩
  dsimp only at w1
  split at w1
  · rename_i r e
    obtain ⟨ty, t1, t2⟩ := isi_ty (K := X.K) F.zk sr1 rd1 e
    exact ⟨_, _, _, _, _, rfl, .ty _, t1, t2, (q.keep k1).pure sr1 .bl w1⟩
  · exact w1.elim
/-! ### methods of built-in classes -/
def mtAny (X : Cx) (id : String) : V → List V → Hp → VK → Prop := fun x xs H Q => ∃ r, MtR X id r ∧ r x xs H Q
theorem mtAny.ok (X : Cx) (id : String) : MtR X id (mtAny X id) := fun pins s σ H x xs v us Q I rx rs ⟨r, h, q⟩ => h pins s σ H x xs v us Q I rx rs q
theorem se_bm {m : Bm} {x : Str} (F : FX X Z G k) (hc : X.calm = true) (pa : PlainAttrs (bmT m)) (slot : Slot (bmT m) x (bmId m)) (hty : typeOf (.builtin (bmId m)) = pure (.type "method_descriptor")) (ho : SE X Z W a₀ wa) (ha : SAs X Z W (e₀ :: es₀) ws)
    (hbase : attributeBase a₀ x X.env (eval a₀ X.env) = eval a₀ X.env)
    (hfew : ((backTo pos (starEach (e₀ :: es₀) X.env)).all (fun x => !x.1) && (backToKw pos (keywordEach [] X.env)).all (fun x => x.1.isSome)
      && decide ((e₀ :: es₀).length + ([] : List Keyword).length + (if ([] : List Keyword).isEmpty then 0 else 1) < 30)) = true)
    (hline : (apos.endLine == pos.line) = true) (hs : starEach (e₀ :: es₀) X.env = (false, eval e₀ X.env) :: starEach es₀ X.env) (hplain : (backTo pos (starEach es₀ X.env)).any (·.1) = false) :
    SE X Z W (.Call (.Attribute a₀ x apos) (e₀ :: es₀) [] pos) (fun σ S Q E => wa σ S (fun x S1 => bmTy m x S1 ∧ ws σ S1 (fun ds S2 => bmW m x ds S2 Q) E) E) := by
  refine PE.imp (pe_bm pa slot hty (mtAny.ok X _) ho ha hbase hfew hline hs hplain) fun τ H Q ⟨σ, S, Qa, E, er, sr, w, q, qe⟩ => ?_
  refine ⟨σ, S, _, E, er, sr, w, fun d v S1 H1 k1 sr1 rd1 w1 => ⟨bmTy_ok sr1 rd1 w1.1, ?_⟩, qe⟩
  exact ⟨σ, S1, _, E, er.keep k1, sr1, w1.2, fun ds vs S2 H2 k2 sr2 rd2 w2 => bm_ok F.zk F.hu hc sr2 (rd1.keep k2) rd2 w2 (q.keep (k1.trans k2)), qe.keep k1⟩
theorem se_bm0 {m : Bm} {x : Str} (F : FX X Z G k) (hc : X.calm = true) (pa : PlainAttrs (bmT m)) (slot : Slot (bmT m) x (bmId m)) (hty : typeOf (.builtin (bmId m)) = pure (.type "method_descriptor")) (ho : SE X Z W a₀ wa)
    (hbase : attributeBase a₀ x X.env (eval a₀ X.env) = eval a₀ X.env) (hline : (apos.endLine == pos.line) = true) :
    SE X Z W (.Call (.Attribute a₀ x apos) [] [] pos) (fun σ S Q E => wa σ S (fun x S1 => bmTy m x S1 ∧ bmW m x [] S1 Q) E) := by
  refine PE.imp (pe_bm0 pa slot hty (mtAny.ok X _) ho hbase hline) fun τ H Q ⟨σ, S, Qa, E, er, sr, w, q, qe⟩ => ?_
  exact ⟨σ, S, _, E, er, sr, w, fun d v S1 H1 k1 sr1 rd1 w1 => ⟨bmTy_ok sr1 rd1 w1.1, bm_ok F.zk F.hu hc sr1 rd1 .nil w1.2 (q.keep k1)⟩, qe⟩
/-! ### new instances -/
theorem new_core (F : FX X Z G k) (tk : Takes X W) (ind : ∀ c d τ τ' H, W c d τ H → W c d τ' H) {c : Nat} {pins : List (Addr × Obj)} {τ : St} {H : Hp} {s : Shared} {Q : VK} {us : List Value} {vs : List V} {ds : List D} {S : Sto} {Qa : QD} {E : QX} (I : Inv X pins τ H s) (r : Vals vs us) (rd : RDs Z H ds vs) (sr : SR Z S H)
    (h : ∀ p, S p = none → G.ini c (.ref p :: ds) (S.upd p (.ins c [])) (fun r S2 => r = .non ∧ Qa (.ref p) S2) E) (q : Kq Z H Qa Q) (qe : Kx Z W τ H E) : wpAny (model X.prog X.w) X.A (PySem.call (.ref (Z.cla c)) us) (EP X pins τ Q) X.xe s := by
  obtain ⟨nc, fI, fd, ps, j, M, ok, hb, hj⟩ := F.ini _ _ _ _ _ (h _ (sr.free (I.hok.fresh (Nat.le_refl _))))
  refine run_makeR (E := fun cls d H' => W cls d τ H') M ok (F.room.mono hj) hb (fun pins σ H s e s' I c => passes_call tk (fun c d σ H w => ind _ _ _ _ _ w) pins σ H s e s' I c) I r fun x dx nx nd ne => ?_
  have k1 : TK H (upd H dx (.own x)) := TK.new nd
  have n2 : (upd H dx (.own x)) x = none := by rw [upd_ne (Ne.symm ne)]; exact nx
  have k2 : TK (upd H dx (.own x)) (upd (upd H dx (.own x)) x (.ins (Z.cla c) dx [])) := TK.new n2
  have k := k1.trans k2
  have sr2 : SR Z (S.upd x (.ins c [])) (upd (upd H dx (.own x)) x (.ins (Z.cla c) dx [])) := (sr.new nd).put (c := .ins c []) k2 ⟨nc, dx, [], upd_same, .nil⟩
  refine ⟨_, _, _, E, .cons .ref (rd.keep k), sr2, h x (sr.free nx), fun d v S' H' k' sr' rd' ⟨e, w⟩ => ?_, fun x cls dd S' H' k' => qe x cls dd S' H' (k.trans k')⟩
  subst e
  cases rd'
  exact ⟨rfl, q _ _ _ _ (k.trans k') sr' .ref w⟩
theorem se_new {x : Str} {c : Nat} (F : FX X Z G k) (tk : Takes X W) (ind : ∀ c d τ τ' H, W c d τ H → W c d τ' H) (hg : Gl X x) (hm : X.mg x = some (.ref (Z.cla c))) (kp : PySem.W.keepIn X.K (.ref (Z.cla c)) = true) (hdb : (x == ("__debug__" : Str)) = false) (ha : SAs X Z W (e₀ :: es₀) ws)
    (he : starEach (e₀ :: es₀) X.env = (false, eval e₀ X.env) :: starEach es₀ X.env) (hpl : (backTo pos (starEach es₀ X.env)).any (·.1) = false) :
    SE X Z W (.Call (.Name x p) (e₀ :: es₀) [] pos) (fun σ S Q E => ws σ S (fun ds S1 => ∀ p, S1 p = none → G.ini c (.ref p :: ds) (S1.upd p (.ins c [])) (fun r S2 => r = .non ∧ Q (.ref p) S2) E) E) := by
  refine ⟨fun pins s τ H Q I ⟨σ, S, Qa, E, er, sr, w, q, qe⟩ => ?_⟩
  refine wpAny_Call_Name_kw (ld_glob I hg hm ?_ hdb)
  refine PySem.W.callWith_K (h₀ := X.base) I.ok.mod.kin kp (thn (ha.run pos pins s τ H _ I ⟨σ, S, _, E, er, sr, w, fun ds vs S1 H1 k1 sr1 rd1 w1 => (⟨k1, ds, S1, sr1, rd1, w1⟩ : TK H H1 ∧ ∃ ds S1, SR Z S1 H1 ∧ RDs Z H1 ds vs ∧ ∀ p, S1 p = none → G.ini c (.ref p :: ds) (S1.upd p (.ins c [])) (fun r S2 => r = .non ∧ Qa (.ref p) S2) E), qe⟩) fun us s1 ⟨vs, H1, I1, r1, k1, ds, S1, sr1, rd1, w1⟩ => ⟨I1.kIn, ?_⟩) he hpl
  exact new_core F tk ind I1 r1 rd1 sr1 w1 (q.keep k1) (qe.keep k1)
theorem se_new0 {x : Str} {c : Nat} (F : FX X Z G k) (tk : Takes X W) (ind : ∀ c d τ τ' H, W c d τ H → W c d τ' H) (hg : Gl X x) (hm : X.mg x = some (.ref (Z.cla c))) (kp : PySem.W.keepIn X.K (.ref (Z.cla c)) = true) (hdb : (x == ("__debug__" : Str)) = false) :
    SE X Z W (.Call (.Name x p) [] [] pos) (fun σ S Q E => ∀ p, S p = none → G.ini c [.ref p] (S.upd p (.ins c [])) (fun r S2 => r = .non ∧ Q (.ref p) S2) E) := by
  refine ⟨fun pins s τ H Q I ⟨σ, S, Qa, E, er, sr, w, q, qe⟩ => ?_⟩
  refine wpAny_Call_Name_kw (ld_glob I hg hm ?_ hdb)
  exact PySem.W.callWith_K0 I.kIn kp (new_core F tk ind I .nil .nil sr w q qe)
/-- a class without __init__ -/
theorem run_make0 {C : Addr} {pins : List (Addr × Obj)} {τ : St} {H : Hp} {s : Shared} {Q : VK} (hm : PySem.W.makesIn X.K C = true) (hi : PySem.W.findIn X.K (.ref C) "__init__" = some (some (.builtin "object.__init__"))) (I : Inv X pins τ H s)
    (h : ∀ x dx, H x = none → H dx = none → dx ≠ x → Q (.ref x) (upd (upd H dx (.own x)) x (.ins C dx []))) : wpAny (model X.prog X.w) X.A (PySem.call (.ref C) []) (EP X pins τ Q) X.xe s := by
  have hq := h (s.heap.objs.size + 1) s.heap.objs.size (I.hok.fresh (Nat.le_succ _)) (I.hok.fresh (Nat.le_refl _)) (Nat.ne_of_lt (Nat.lt_succ_self _))
  have I2 := Inv.made (C := C) I
  have Y := PySem.W.makes_of (M := model X.prog X.w) I.kIn hm
  refine wpAny_call (make_map0 I.kIn hm hi (fun self => PySem.W.Looks.of_pure (PySem.W.oi_bind self)) ?_)
  obtain ⟨hh, g, d, t, os⟩ := s
  have t1 : PySem.W.Looks (model X.prog X.w) ((hh.push PySem.W.emptyDict).push (PySem.W.instObj C hh.objs.size)) (typeOf (.ref (hh.objs.size + 1))) (.ref C) := by
    have e : ((hh.push PySem.W.emptyDict).push (PySem.W.instObj C hh.objs.size)).get? (hh.objs.size + 1) = some (PySem.W.instObj C hh.objs.size) := by
      have := Heap.get?_push_size (h := hh.push PySem.W.emptyDict) (o := PySem.W.instObj C hh.objs.size) (by rfl)
      rw [Heap.size_push] at this
      exact this
    exact (PySem.W.Looks.ld e).andThen .now
  have t2 : PySem.W.Looks (model X.prog X.w) ((hh.push PySem.W.emptyDict).push (PySem.W.instObj C hh.objs.size)) (isInstance (.ref (hh.objs.size + 1)) (.type "object")) true := t1.andThen (Y.top.keeps fun b o e => Heap.get?_push_of_some _ (Heap.get?_push_of_some _ e))
  refine codeAny_call_builtin PySem.W.oi_plain PySem.W.entry_oi (@PySem.W.check_slot (model X.prog X.w) _ _ _ "object.__init__" "object" "__init__" (.ref (hh.objs.size + 1)) [] [] _ PySem.W.oi_kind PySem.W.oi_split t2 (PySem.W.oi_args (.ref (hh.objs.size + 1))) ?_)
  rw [PySem.W.oi_run]
  exact wpAny_pure (And.intro rfl ⟨V.ref (hh.objs.size + 1), _, I2, rfl, hq⟩)
theorem se_newo {x : Str} {c : Nat} (hc : c < Z.nc) (h1 : PySem.W.makesIn X.K (Z.cla c) = true) (h2 : PySem.W.findIn X.K (.ref (Z.cla c)) "__init__" = some (some (.builtin "object.__init__"))) (hg : Gl X x) (hm : X.mg x = some (.ref (Z.cla c))) (kp : PySem.W.keepIn X.K (.ref (Z.cla c)) = true) (hdb : (x == ("__debug__" : Str)) = false) :
    SE X Z W (.Call (.Name x p) [] [] pos) (fun _ S Q _ => ∀ p, S p = none → Q (.ref p) (S.upd p (.ins c []))) := by
  refine ⟨fun pins s τ H Q I ⟨σ, S, Qa, E, er, sr, w, q, qe⟩ => ?_⟩
  refine wpAny_Call_Name_kw (ld_glob I hg hm ?_ hdb)
  refine PySem.W.callWith_K0 I.kIn kp (run_make0 h1 h2 I fun x dx nx nd ne => ?_)
  have k1 : TK H (upd H dx (.own x)) := TK.new nd
  have n2 : (upd H dx (.own x)) x = none := by rw [upd_ne (Ne.symm ne)]; exact nx
  have k2 : TK (upd H dx (.own x)) (upd (upd H dx (.own x)) x (.ins (Z.cla c) dx [])) := TK.new n2
  have sr2 : SR Z (S.upd x (.ins c [])) (upd (upd H dx (.own x)) x (.ins (Z.cla c) dx [])) := (sr.new nd).put (c := .ins c []) k2 ⟨hc, dx, [], upd_same, .nil⟩
  exact q _ _ _ _ (k1.trans k2) sr2 .ref (w x (sr.free nx))
end
end Mini
end L2
/-! Mini, part I: what loops go over, list comprehensions -/
namespace L2
namespace Mini
open PySem PySem.Spec PyProof.Rows
/-- the iterator J goes over the data ds while the store is alive; H0: the heap when it was made -/
structure Wlk (Z : Nm) (H0 : Hp) (J : It) (ds : List D) (live : Sto → Prop) : Prop where
  go : ∀ i S H, TK H0 H → SR Z S H → live S → i < ds.length → J.go i H
  stop : ∀ S H, TK H0 H → SR Z S H → live S → J.stop ds.length H
  yld : ∀ i S H x H' d, TK H0 H → SR Z S H → live S → ds[i]? = some d → J.yld i H x H' → TK H H' ∧ (∀ b o, H b = some o → H' b = some o) ∧ RD Z H' d x
def TIx (Z : Nm) (W : WX) (w : Env → Sto → (List D → (Sto → Prop) → Sto → Prop) → QX → Prop) : TI := fun τ H R => ∃ σ S Ra E, ER Z H σ τ ∧ SR Z S H ∧ w σ S Ra E ∧
  (∀ ds live S' H' J, TK H H' → SR Z S' H' → Wlk Z H' J ds live → Ra ds live S' → R J H') ∧ Kx Z W τ H E
def SI (X : Cx) (Z : Nm) (W : WX) (tg iter : Expr) (w : Env → Sto → (List D → (Sto → Prop) → Sto → Prop) → QX → Prop) : Prop := PI X tg iter (TIx Z W w)
theorem PI.imp {X : Cx} {tg iter : Expr} {t t' : TI} (h : PI X tg iter t) (i : ∀ τ H R, t' τ H R → t τ H R) : PI X tg iter t' := ⟨fun pins s σ H R I w => h.run pins s σ H R I (i _ _ _ w)⟩
section
variable {X : Cx} {Z : Nm} {G : Gam} {k : Nat} {W : WX} {a₀ b₀ c₀ e₀ tg : Expr} {es₀ : List Expr} {wa wb wc : WE0} {ws : Env → Sto → (List D → Sto → Prop) → QX → Prop} {pos apos p : Pos}
/-! ### by values: a list, a tuple, a text are gone over -/
theorem it_list {pins : List (Addr × Obj)} {τ : St} {H : Hp} {s : Shared} {a : Addr} {xs : List V} {R : It → Hp → Prop} (I : Inv X pins τ H s) (hq : SqL X.K H a xs) (q : R (Itl X.K a) H) : wpAny (model X.prog X.w) X.A (pyIter (.ref a)) (PIE X pins τ tg R) X.xe s := by
  obtain ⟨its, rv, pl, _⟩ := I.list hq
  refine wpAny_pyIter_list pl.isList ⟨s.heap.objs.size, [s.heap.objs.size], _, _, H, rfl, I.kept (t' := s.toks) fun b o e => ?_, turn_list a _, ⟨_, Heap.get?_push_size _ rfl, rfl, rfl⟩, fun b hb => ?_, q⟩
  · exact Heap.get?_push_of_some _ e
  · cases List.mem_singleton.mp hb
    exact I.fpOk (Nat.le_refl _) (I.hok.fresh (Nat.le_refl _))
theorem it_tuple {pins : List (Addr × Obj)} {τ : St} {H : Hp} {s : Shared} {a : Addr} {xs : List V} {R : It → Hp → Prop} (I : Inv X pins τ H s) (hq : SqT X.K H a xs) (q : R (Itt X.K a) H) : wpAny (model X.prog X.w) X.A (pyIter (.ref a)) (PIE X pins τ tg R) X.xe s := by
  obtain ⟨its, rv, pl, _⟩ := I.tuple hq
  refine wpAny_pyIter_tuple (show s.heap.IsTuple a its.toArray from pl) ⟨s.heap.objs.size, [s.heap.objs.size], _, _, H, rfl, I.kept (t' := s.toks) fun b o e => ?_, turn_tuple a _, ⟨_, Heap.get?_push_size _ rfl, rfl, rfl⟩, fun b hb => ?_, q⟩
  · exact Heap.get?_push_of_some _ e
  · cases List.mem_singleton.mp hb
    exact I.fpOk (Nat.le_refl _) (I.hok.fresh (Nat.le_refl _))
/-- a constant that is a value already there: to reach the rule of texts by values -/
theorem wlk_list {H : Hp} {S : Sto} {a : Addr} {ds : List D} (hK : Z.K = X.K) (e : rd S a = some ds) : Wlk Z H (Itl X.K a) ds (liveL a ds) where
  go := fun i S H k sr l hi => by
    obtain ⟨vs, sq, rs⟩ := rdAt (K := X.K) sr l
    exact ⟨vs, vs[i]'(by rw [← rs.length]; exact hi), sq, by simp⟩
  stop := fun S H k sr l => by
    obtain ⟨vs, sq, rs⟩ := rdAt (K := X.K) sr l
    exact ⟨vs, sq, by rw [rs.length]; exact Nat.le_refl _⟩
  yld := fun i S H x H' d k sr l hd y => by
    obtain ⟨e, y⟩ := y
    subst e
    obtain ⟨vs, sq, rs⟩ := rdAt (K := X.K) sr l
    obtain ⟨v, h1, h2⟩ := rs.get hd
    rw [y vs sq] at h1
    cases h1
    exact ⟨TK.refl _, fun _ _ h => h, h2⟩
theorem wlk_tuple {H : Hp} {a : Addr} {ds : List D} {vs : List V} (hK : Z.K = X.K) (t : TupAt Z.K H a vs) (rs : RDs Z H ds vs) : Wlk Z H (Itt X.K a) ds (fun _ => True) where
  go := fun i S H' k sr l hi => ⟨vs, vs[i]'(by rw [← rs.length]; exact hi), by rw [← hK]; exact (t.keep k).sq, by simp⟩
  stop := fun S H' k sr l => ⟨vs, by rw [← hK]; exact (t.keep k).sq, by rw [rs.length]; exact Nat.le_refl _⟩
  yld := fun i S H1 x H' d k sr l hd y => by
    obtain ⟨e, y⟩ := y
    subst e
    obtain ⟨v, h1, h2⟩ := rs.get hd
    rw [y vs (by rw [← hK]; exact (t.keep k).sq)] at h1
    cases h1
    exact ⟨TK.refl _, fun _ _ h => h, h2.keep k⟩
theorem wlk_str {H : Hp} {l : List Nat} : Wlk Z H (Its (st l)) (l.map fun c => D.str [c]) (fun _ => True) where
  go := fun i S H' k sr _ hi => by
    show i < (st l).cps.size
    simpa [st] using hi
  stop := fun S H' k sr _ => by
    show (st l).cps.size ≤ _
    simp [st]
  yld := fun i S H1 x H' d k sr _ hd y => by
    obtain ⟨e, c, hc, hx⟩ := y
    subst e hx
    rw [List.getElem?_map] at hd
    have hc' : l[i]? = some c := by simpa [st] using hc
    rw [hc'] at hd
    cases hd
    exact ⟨TK.refl _, fun _ _ h => h, .str (l := [c])⟩
theorem wlk_rng {H : Hp} {lo : Int} {n : Nat} : Wlk Z H (L2.Itr lo n) (rngD lo n) (fun _ => True) where
  go := fun i S H' k sr _ hi => by
    show i < n
    simpa [rngD] using hi
  stop := fun S H' k sr _ => by
    show n ≤ _
    simp [rngD]
  yld := fun i S H1 x H' d k sr _ hd y => by
    obtain ⟨e, hx⟩ := y
    subst e hx
    unfold rngD at hd
    rw [List.getElem?_map] at hd
    cases q : (List.range n)[i]? with
    | none => rw [q] at hd; cases hd
    | some j =>
      rw [q] at hd
      cases hd
      obtain ⟨h1, h2⟩ := List.getElem?_eq_some_iff.mp q
      rw [List.getElem_range] at h2
      subst h2
      exact ⟨TK.refl _, fun _ _ h => h, .int⟩
/-- texts by values, out of the rule for expressions -/
theorem it_str {pins : List (Addr × Obj)} {τ : St} {H : Hp} {s : Shared} {x : Str} {t : Tok} {R : It → Hp → Prop} (I : Inv X pins τ H s) (q : R (Its x) H) : wpAny (model X.prog X.w) X.A (pyIter (.str x t)) (PIE X pins τ tg R) X.xe s := by
  obtain ha | ha : x.cps.all (· < 128) = true ∨ x.cps.all (· < 128) = false := by cases x.cps.all (· < 128) <;> simp
  · refine wpAny_pyIter_ascii ha (pi_one (tk := s.toks) I _ (turn_str _ x t "str_ascii_iterator" (.inl rfl)) ?_ q)
    exact ⟨_, Heap.get?_push_size _ rfl, rfl, rfl⟩
  · refine wpAny_pyIter_wide ha (pi_one (tk := s.toks) I _ (turn_str _ x t "str_iterator" (.inr rfl)) ?_ q)
    exact ⟨_, Heap.get?_push_size _ rfl, rfl, rfl⟩
theorem si_sq (hK : Z.K = X.K) (ha : SE X Z W a₀ wa) : SI X Z W tg a₀ (fun σ S R E => wa σ S (fun x S1 => sqW x S1 (fun ds l => R ds l S1)) E) := by
  refine ⟨fun pins s τ H R I ⟨σ, S, Ra, E, er, sr, w, r, qe⟩ => ?_⟩
  refine thn (ha.run pins s τ H (fun v H1 => TK H H1 ∧ ∃ d S1, SR Z S1 H1 ∧ RD Z H1 d v ∧ sqW d S1 (fun ds l => Ra ds l S1)) I ⟨σ, S, _, E, er, sr, w, fun d v S1 H1 k1 sr1 rd1 w1 => ⟨k1, d, S1, sr1, rd1, w1⟩, qe⟩) fun u s1 ⟨v, H1, I1, rv, k1, d, S1, sr1, rd1, w1⟩ => ?_
  unfold sqW at w1
  split at w1
  · cases rd1 with
    | tup t rs =>
      cases rv
      exact it_tuple I1 (by rw [← hK]; exact t.sq) (r _ _ _ _ _ k1 sr1 (wlk_tuple hK t rs) w1)
  · cases rd1
    obtain ⟨t, rfl⟩ := rv
    exact it_str I1 (r _ _ _ _ _ k1 sr1 wlk_str w1.2)
  · rename_i a
    cases rd1
    cases rv
    split at w1
    · rename_i ds e
      have e' : rd S1 a = some ds := by unfold rd; rw [e]
      obtain ⟨vs, sq, rs⟩ := rdAt (K := X.K) sr1 e'
      exact it_list I1 sq (r _ _ _ _ _ k1 sr1 (wlk_list hK e') w1)
    · rename_i ds e
      have e' : rd S1 a = some ds := by unfold rd; rw [e]
      obtain ⟨vs, sq, rs⟩ := rdAt (K := X.K) sr1 e'
      exact it_list I1 sq (r _ _ _ _ _ k1 sr1 (wlk_list hK e') w1)
    · exact w1.elim
  · exact w1.elim
theorem si_rng (hg : Gl X "range") (hm : X.mg "range" = none) (hb : SE X Z W b₀ wb) (hs : starEach [b₀] X.env = [(false, eval b₀ X.env)]) : SI X Z W tg (.Call (.Name "range" p) [b₀] [] pos) (fun σ S R E => wb σ S (fun x S1 => match x with | .int j => -(2 ^ 62) ≤ j ∧ j < 2 ^ 62 ∧ R (rngD 0 j.toNat) (fun _ => True) S1 | _ => False) E) :=
  PI.imp (pi_range1 hg hm (pa_cons hb pa_nil hs) hs) fun τ H R ⟨σ, S, Ra, E, er, sr, w, r, qe⟩ => by
    refine ⟨σ, S, _, E, er, sr, w, fun d v S1 H1 k1 sr1 rd1 w1 => ?_, qe⟩
    dsimp only at w1
    split at w1
    · cases rd1
      exact ⟨_, rfl, w1.1, w1.2.1, r _ _ _ _ _ k1 sr1 wlk_rng w1.2.2⟩
    · exact w1.elim
theorem si_rng2 (hg : Gl X "range") (hm : X.mg "range" = none) (ha : SE X Z W a₀ wa) (hb : SE X Z W b₀ wb) (hs : starEach [a₀, b₀] X.env = [(false, eval a₀ X.env), (false, eval b₀ X.env)]) (hs2 : starEach [b₀] X.env = [(false, eval b₀ X.env)]) : SI X Z W tg (.Call (.Name "range" p) [a₀, b₀] [] pos)
    (fun σ S R E => wa σ S (fun x S1 => wb σ S1 (fun y S2 => match x, y with | .int i, .int j => -(2 ^ 62) ≤ i ∧ i < 2 ^ 62 ∧ -(2 ^ 62) ≤ j ∧ j < 2 ^ 62 ∧ R (rngD i (j - i).toNat) (fun _ => True) S2 | _, _ => False) E) E) :=
  PI.imp (pi_range2 hg hm (pa_cons ha (pa_cons hb pa_nil hs2) (by rw [hs, hs2])) hs hs2) fun τ H R ⟨σ, S, Ra, E, er, sr, w, r, qe⟩ => by
    refine two_ok (R := fun x y H2 => ∃ i j : Int, ([x, y] : List V) = [.int i, .int j] ∧ (-(2 ^ 62) ≤ i ∧ i < 2 ^ 62 ∧ -(2 ^ 62) ≤ j ∧ j < 2 ^ 62) ∧ R (L2.Itr i (j - i).toNat) H2) er sr w qe fun {S2 H2 x y v u} k sr' rx ry h => ?_
    split at h
    · cases rx; cases ry
      exact ⟨_, _, rfl, ⟨h.1, h.2.1, h.2.2.1, h.2.2.2.1⟩, r _ _ _ _ _ k sr' wlk_rng h.2.2.2.2⟩
    · exact h.elim
end
end Mini
end L2
/-! Mini, part J: statements -/
namespace L2
namespace Mini
open PySem PySem.Spec PyProof.Rows
abbrev WS0 := En → EX → Env → Sto → Prop
/-- the ends, over the abstract heap -/
structure KD (Z : Nm) (H : Hp) (K : En) (D : Ends) : Prop where
  nx : ∀ σ S τ H', TK H H' → ER Z H' σ τ → SR Z S H' → K.nx σ S → D.nx τ H'
  rt : Kq Z H K.rt D.rt
  bk : ∀ σ S τ H', TK H H' → ER Z H' σ τ → SR Z S H' → K.bk σ S → D.bk τ H'
  ct : ∀ σ S τ H', TK H H' → ER Z H' σ τ → SR Z S H' → K.ct σ S → D.ct τ H'
theorem KD.keep {Z : Nm} {H H' : Hp} {K : En} {D : Ends} (d : KD Z H K D) (k : TK H H') : KD Z H' K D :=
  ⟨fun σ S τ H2 k2 => d.nx σ S τ H2 (k.trans k2), d.rt.keep k, fun σ S τ H2 k2 => d.bk σ S τ H2 (k.trans k2), fun σ S τ H2 k2 => d.ct σ S τ H2 (k.trans k2)⟩
def KX (Z : Nm) (W : WX) (H : Hp) (Xf : EX) : Prop := ∀ x cls dd σ S τ H', TK H H' → ER Z H' σ τ → SR Z S H' → XR Z H' x cls dd → Xf x σ S → W cls dd τ H'
theorem KX.keep {Z : Nm} {W : WX} {H H' : Hp} {Xf : EX} (d : KX Z W H Xf) (k : TK H H') : KX Z W H' Xf := fun x c dd σ S τ H2 k2 => d x c dd σ S τ H2 (k.trans k2)
theorem KX.kx {Z : Nm} {W : WX} {H : Hp} {Xf : EX} {σ : Env} {τ : St} (d : KX Z W H Xf) (er : ER Z H σ τ) : Kx Z W τ H (fun x S1 => Xf x σ S1) := fun x c dd S' H' k sr xr h => d x c dd σ S' τ H' k (er.keep k) sr xr h
def TSx (Z : Nm) (W : WX) (w : WS0) : TS := fun D τ H => ∃ σ S K Xf, ER Z H σ τ ∧ SR Z S H ∧ w K Xf σ S ∧ KD Z H K D ∧ KX Z W H Xf
def SS (X : Cx) (Z : Nm) (W : WX) (st : Stmt) (w : WS0) : Prop := PS X st (TSx Z W w)
def SSs (X : Cx) (Z : Nm) (W : WX) (st : List Stmt) (w : WS0) : Prop := PSs X st (TSx Z W w)
theorem PS.imp {X : Cx} {st : Stmt} {t t' : TS} (h : PS X st t) (i : ∀ D τ H, t' D τ H → t D τ H) : PS X st t' := ⟨fun pins s σ H D I w => h.run pins s σ H D I (i _ _ _ w)⟩
theorem PSs.imp {X : Cx} {st : List Stmt} {t t' : TS} (h : PSs X st t) (i : ∀ D τ H, t' D τ H → t D τ H) : PSs X st t' := ⟨fun pins s σ H D I w => h.run pins s σ H D I (i _ _ _ w)⟩
/-! ### targets -/
def gIs : List Nat → TGs
  | [] => gNil
  | i :: is => gCons (gName i) (gIs is)
def gTg (K : PySem.W.Frag) : Tg → TG
  | .nm i => gName i
  | .tp is => gTup K is.length (gIs is)
section
variable {X : Cx} {Z : Nm} {G : Gam} {k : Nat} {W : WX} {a₀ b₀ c₀ e₀ tg : Expr} {es₀ : List Expr} {wa wb wc : WE0} {ws : Env → Sto → (List D → Sto → Prop) → QX → Prop} {pos apos p : Pos}
theorem gIs_ok {Q : St → Hp → Prop} {H : Hp} : ∀ {is : List Nat} {ds : List D} {vs : List V} {σ : Env} {τ : St}, RDs Z H ds vs → ds.length = is.length → ER Z H σ τ →
    (∀ τ', ER Z H ((is.zip ds).foldl (fun s p => s.set p.1 (some p.2)) σ) τ' → Q τ' H) → gIs is vs τ H Q
  | [], [], _, σ, τ, rs, _, er, q => by cases rs; exact ⟨rfl, q τ er⟩
  | i :: is, d :: ds, _, σ, τ, rs, hl, er, q => by
    cases rs with
    | cons r rs => exact ⟨_, _, rfl, gIs_ok rs (Nat.succ.inj hl) (er.set i r) q⟩
  | [], _ :: _, _, _, _, _, hl, _, _ => by cases hl
  | _ :: _, [], _, _, _, _, hl, _, _ => by cases hl
theorem gTg_ok {Q : St → Hp → Prop} {H : Hp} {t : Tg} {d : D} {v : V} {σ σ' : Env} {τ : St} (hK : Z.K = X.K) (h : tgW t d σ = some σ') (r : RD Z H d v) (er : ER Z H σ τ) (q : ∀ τ', ER Z H σ' τ' → Q τ' H) : gTg X.K t v τ H Q := by
  cases t with
  | nm i => cases h; exact q _ (er.set i r)
  | tp is =>
    unfold tgW at h
    dsimp only at h
    split at h
    · rename_i ds
      split at h
      · rename_i hl
        cases h
        cases r with
        | tup t rs => exact ⟨_, _, rfl, by rw [← hK]; exact t.sq, by rw [← rs.length]; exact hl, gIs_ok rs hl er q⟩
      · cases h
    · cases h
/-- (a, b, ..) = a list of that length -/
def gLst (K : PySem.W.Frag) (n : Nat) (t : TGs) : TG := fun v σ H Q => ∃ a xs, v = .ref a ∧ SqL K H a xs ∧ xs.length = n ∧ t xs σ H Q
theorem pg_lst {es : List Expr} {k : Nat} {t : TGs} {n : Nat} (hc : X.calm = true) (h : PGs X es t) (hn : (assignEach es X.env).length = n) (hst : (assignEach es X.env).findIdx? (·.1) = none) : PG X (.Tuple es k pos) (gLst X.K n t) := by
  refine ⟨fun pins s σ H v u Q I r hw => ?_⟩
  obtain ⟨a, xs, e1, hq, hl, hw⟩ := hw
  subst e1
  cases r
  obtain ⟨its, rv, ht, hz⟩ := I.list hq
  have hl' : (assignEach es X.env).length = its.toArray.size := by simp [hn, ← hl, rv.length]
  rw [assign_Tuple]
  refine wpAny_bind (wpAny_standAt ?_)
  unfold unpack
  rw [hl', hst]
  refine wpAny_bind (wpAny_holding (PySem.W.kun_itemsOf (I.ok.hd hc) ht.isList fun h' hx => ?_))
  have I1 : Inv X pins σ H { s with heap := h' } := I.kept (t' := s.toks) fun b o e => hx b o (Nat.ne_of_lt (Heap.lt_size e)) e
  exact h.run pins _ σ H xs _ Q I1 (by simpa using rv) hw
theorem pgs_names {is : List Nat} {es : List Expr} (h : PGs X es (gIs is)) (hc : X.calm = true) {kk : Nat} (hn : (assignEach es X.env).length = is.length) (hst : (assignEach es X.env).findIdx? (·.1) = none) : PG X (.Tuple es kk pos) (gTg X.K (.tp is)) := pg_tup hc h hn hst
theorem tg_nil : PGs X [] (gIs []) := pgs_nil
theorem tg_cons {i : Nat} {is : List Nat} {x : Str} {es : List Expr} (hN : X.N.Nodup) (hi : X.N[i]? = some x) (hx : Loc X.env.scope x) (hf : X.fn x = true ∨ X.env.scope.names.lookup x = some .local) (h : PGs X es (gIs is))
    (hs : (assignEach (.Name x p :: es) X.env).map (·.2) = assign (.Name x p) X.env :: (assignEach es X.env).map (·.2)) : PGs X (.Name x p :: es) (gIs (i :: is)) := pgs_cons (pg_name hN hi hx hf) h hs
theorem tg_name {i : Nat} {x : Str} (hN : X.N.Nodup) (hi : X.N[i]? = some x) (hx : Loc X.env.scope x) (hf : X.fn x = true ∨ X.env.scope.names.lookup x = some .local) : PG X (.Name x p) (gTg X.K (.nm i)) := pg_name hN hi hx hf
/-! ### blocks -/
theorem ss_nil : SSs X Z W [] (fun K _ σ S => K.nx σ S) := PSs.imp pss_nil fun D τ H ⟨σ, S, K, Xf, er, sr, w, kd, kx⟩ => kd.nx σ S τ H (TK.refl H) er sr w
theorem ss_cons {s : Stmt} {ss : List Stmt} {w1 w2 : WS0} (h1 : SS X Z W s w1) (h2 : SSs X Z W ss w2) : SSs X Z W (s :: ss) (fun K Xf σ S => w1 { K with nx := fun σ' S' => w2 K Xf σ' S' } Xf σ S) :=
  PSs.imp (pss_cons h1 h2) fun D τ H ⟨σ, S, K, Xf, er, sr, w, kd, kx⟩ => ⟨σ, S, _, Xf, er, sr, w, ⟨fun σ2 S2 τ2 H2 k2 er2 sr2 w2 => ⟨σ2, S2, K, Xf, er2, sr2, w2, kd.keep k2, kx.keep k2⟩, kd.rt, kd.bk, kd.ct⟩, kx⟩
theorem ss_pass : SS X Z W (.Pass pos) (fun K _ σ S => K.nx σ S) := PS.imp ps_pass fun D τ H ⟨σ, S, K, Xf, er, sr, w, kd, kx⟩ => kd.nx σ S τ H (TK.refl H) er sr w
theorem ss_brk : SS X Z W (.Break pos) (fun K _ σ S => K.bk σ S) := PS.imp ps_break fun D τ H ⟨σ, S, K, Xf, er, sr, w, kd, kx⟩ => kd.bk σ S τ H (TK.refl H) er sr w
theorem ss_cnt : SS X Z W (.Continue pos) (fun K _ σ S => K.ct σ S) := PS.imp ps_continue fun D τ H ⟨σ, S, K, Xf, er, sr, w, kd, kx⟩ => kd.ct σ S τ H (TK.refl H) er sr w
theorem ss_ret (ha : SE X Z W a₀ wa) : SS X Z W (.Return (some a₀) pos) (fun K Xf σ S => wa σ S K.rt (fun x S1 => Xf x σ S1)) :=
  PS.imp (ps_ret ha) fun D τ H ⟨σ, S, K, Xf, er, sr, w, kd, kx⟩ => ⟨σ, S, _, _, er, sr, w, kd.rt, kx.kx er⟩
theorem ss_retN : SS X Z W (.Return none pos) (fun K _ σ S => K.rt .non S) := PS.imp ps_retN fun D τ H ⟨σ, S, K, Xf, er, sr, w, kd, kx⟩ => kd.rt .non .non S H (TK.refl H) sr .non w
theorem ss_ex (ha : SE X Z W a₀ wa) (hs : swapsWith a₀ none pos.line X.env = pure false) : SS X Z W (.Expr a₀ pos) (fun K Xf σ S => wa σ S (fun _ S1 => K.nx σ S1) (fun x S1 => Xf x σ S1)) :=
  PS.imp (ps_expr ha hs) fun D τ H ⟨σ, S, K, Xf, er, sr, w, kd, kx⟩ => ⟨σ, S, _, _, er, sr, w, fun d v S1 H1 k1 sr1 _ w1 => kd.nx σ S1 τ H1 k1 (er.keep k1) sr1 w1, kx.kx er⟩
theorem ss_set {i : Nat} {x : Str} (hN : X.N.Nodup) (hi : X.N[i]? = some x) (hx : Loc X.env.scope x) (hf : X.fn x = true ∨ X.env.scope.names.lookup x = some .local) (ha : SE X Z W a₀ wa) (hs : swapsWith a₀ (some (.Name x p)) pos.line X.env = pure false) :
    SS X Z W (.Assign [.Name x p] a₀ pos) (fun K Xf σ S => wa σ S (fun d S1 => K.nx (σ.set i (some d)) S1) (fun x S1 => Xf x σ S1)) :=
  PS.imp (ps_set hN hi hx ha hs hf) fun D τ H ⟨σ, S, K, Xf, er, sr, w, kd, kx⟩ => ⟨σ, S, _, _, er, sr, w, fun d v S1 H1 k1 sr1 r w1 => kd.nx _ S1 _ H1 k1 ((er.keep k1).set i r) sr1 w1, kx.kx er⟩
theorem ss_unp {is : List Nat} {es : List Expr} {kk : Nat} {tp : Pos} (hK : Z.K = X.K) (hg : PG X (.Tuple es kk tp) (gTg X.K (.tp is))) (ha : SE X Z W a₀ wa) (hs : swapsWithSole [.Tuple es kk tp] a₀ pos.line X.env = pure false) (hw : swappedStores [.Tuple es kk tp] a₀ X.env = pure none)
    (h1 : (assignEach [.Tuple es kk tp] X.env).map (·.2) = [assign (.Tuple es kk tp) X.env]) :
    SS X Z W (.Assign [.Tuple es kk tp] a₀ pos) (fun K Xf σ S => wa σ S (fun d S1 => match tgW (.tp is) d σ with | some σ' => K.nx σ' S1 | none => False) (fun x S1 => Xf x σ S1)) :=
  PS.imp (ps_asg ha hg hs hw h1) fun D τ H ⟨σ, S, K, Xf, er, sr, w, kd, kx⟩ => ⟨σ, S, _, _, er, sr, w, fun d v S1 H1 k1 sr1 r w1 => by
    dsimp only at w1
    split at w1
    · rename_i σ' e
      exact gTg_ok hK e r (er.keep k1) fun τ' er' => kd.nx _ S1 _ H1 k1 er' sr1 w1
    · exact w1.elim, kx.kx er⟩
theorem ss_unpl {is : List Nat} {es : List Expr} {kk : Nat} {tp : Pos} (hK : Z.K = X.K) (hg : PG X (.Tuple es kk tp) (gLst X.K is.length (gIs is))) (ha : SE X Z W a₀ wa) (hs : swapsWithSole [.Tuple es kk tp] a₀ pos.line X.env = pure false) (hw : swappedStores [.Tuple es kk tp] a₀ X.env = pure none)
    (h1 : (assignEach [.Tuple es kk tp] X.env).map (·.2) = [assign (.Tuple es kk tp) X.env]) :
    SS X Z W (.Assign [.Tuple es kk tp] a₀ pos) (fun K Xf σ S => wa σ S (fun d S1 => match d with | .ref a => (match rd S1 a with | some ds => (match tgW (.tp is) (.tup ds) σ with | some σ' => K.nx σ' S1 | none => False) | none => False) | _ => False) (fun x S1 => Xf x σ S1)) :=
  PS.imp (ps_asg ha hg hs hw h1) fun D τ H ⟨σ, S, K, Xf, er, sr, w, kd, kx⟩ => ⟨σ, S, _, _, er, sr, w, fun d v S1 H1 k1 sr1 r w1 => by
    dsimp only at w1
    split at w1
    · rename_i a
      split at w1
      · rename_i ds e
        split at w1
        · rename_i σ' e2
          obtain ⟨vs, sq, rs⟩ := rdAt (K := X.K) sr1 e
          unfold tgW at e2
          dsimp only at e2
          split at e2
          · rename_i hl
            cases e2
            cases r
            exact ⟨_, _, rfl, sq, by rw [← rs.length]; exact hl, gIs_ok rs hl (er.keep k1) fun τ' er' => kd.nx _ S1 _ H1 k1 er' sr1 w1⟩
          · cases e2
        · exact w1.elim
      · exact w1.elim
    · exact w1.elim, kx.kx er⟩
def rSetAny (X : Cx) : TSet := fun o i v H Q => ∃ t, PSet X t ∧ t o i v H Q
theorem rSetAny.ok (X : Cx) : PSet X (rSetAny X) := fun pins s σ H o i v ov iv u Q I ro ri rv ⟨t, h, q⟩ => h pins s σ H o i v ov iv u Q I ro ri rv q
theorem setix_ok (hu : X.A.units + 1 < cLine) {H : Hp} {S : Sto} {o i v : D} {vo vi vv : V} {Qa : Sto → Prop} {Q : Hp → Prop} (sr : SR Z S H) (ro : RD Z H o vo) (ri : RD Z H i vi) (rv : RD Z H v vv) (h : setixW o i v S Qa)
    (q : ∀ S' H', TK H H' → SR Z S' H' → Qa S' → Q H') : rSetAny X vo vi vv H Q := by
  unfold setixW at h
  split at h
  · rename_i a
    cases ro
    split at h
    · rename_i ds kk e
      cases ri
      obtain ⟨j, ej, h⟩ := h
      obtain ⟨vs, hq, rs⟩ := lstAt sr e
      have tk : TK H (upd H a (.lst (vs.set j vv))) := TK.mut hq True.intro
      refine ⟨_, set_list, a, vs, kk, j, rfl, rfl, hq, by rw [← rs.length]; exact ej, ?_⟩
      exact q _ _ tk (sr.put (c := .lst (ds.set j v)) tk ⟨_, upd_same, (rs.set rv j).keep tk⟩) h
    · rename_i kvs kk e
      cases ri
      obtain ⟨gs, hq, rs⟩ := sr a _ e
      have tk : TK H (upd H a (.dK (putK gs (kyS (.inl kk)) vv))) := TK.mut hq True.intro
      refine ⟨_, set_dict hu, a, _, rfl, DPut.k (k := kyS (.inl kk)) hq (by rw [← rs.length]; exact h.1), ?_⟩
      exact q _ _ tk (sr.put (c := .dct (dput kvs (.inl kk) v)) tk ⟨_, upd_same, (rs.put rv (.inl kk)).keep tk⟩) h.2
    · rename_i kvs l e
      cases ri
      obtain ⟨gs, hq, rs⟩ := sr a _ e
      have tk : TK H (upd H a (.dK (putK gs (kyS (.inr l)) vv))) := TK.mut hq True.intro
      refine ⟨_, set_dict hu, a, _, rfl, DPut.k (k := kyS (.inr l)) hq (by rw [← rs.length]; exact h.1), ?_⟩
      exact q _ _ tk (sr.put (c := .dct (dput kvs (.inr l) v)) tk ⟨_, upd_same, (rs.put rv (.inr l)).keep tk⟩) h.2
    · exact h.elim
  · exact h.elim
theorem ss_setix {tp : Pos} (hu : X.A.units + 1 < cLine) (hv : SE X Z W a₀ wa) (ho : SE X Z W b₀ wb) (hi : SE X Z W c₀ wc)
    (ha : ∀ v, assign (.Subscript b₀ c₀ tp) X.env v = (do
      let ov ← holding [v] (eval b₀ X.env)
      let iv ← holding [v, ov] (eval c₀ X.env)
      standAt tp
      holding [v, ov, iv] (setItem ov iv v)
      release [v, ov, iv] []))
    (hs : swapsWithSole [.Subscript b₀ c₀ tp] a₀ pos.line X.env = pure false) (hw : swappedStores [.Subscript b₀ c₀ tp] a₀ X.env = pure none) (h1 : (assignEach [.Subscript b₀ c₀ tp] X.env).map (·.2) = [assign (.Subscript b₀ c₀ tp) X.env]) :
    SS X Z W (.Assign [.Subscript b₀ c₀ tp] a₀ pos) (fun K Xf σ S => wa σ S (fun v S1 => wb σ S1 (fun x S2 => wc σ S2 (fun y S3 => setixW x y v S3 (fun S4 => K.nx σ S4)) (fun x S1 => Xf x σ S1)) (fun x S1 => Xf x σ S1)) (fun x S1 => Xf x σ S1)) :=
  PS.imp (ps_asg hv (pg_sub ho hi (rSetAny.ok X) ha) hs hw h1) fun D τ H ⟨σ, S, K, Xf, er, sr, w, kd, kx⟩ => by
    have qe := kx.kx er
    refine ⟨σ, S, _, _, er, sr, w, fun dv v S1 H1 k1 sr1 rv w1 => ?_, qe⟩
    refine ⟨σ, S1, _, _, er.keep k1, sr1, w1, fun dx x S2 H2 k2 sr2 rx w2 => ?_, qe.keep k1⟩
    refine ⟨σ, S2, _, _, (er.keep k1).keep k2, sr2, w2, fun dy y S3 H3 k3 sr3 ry w3 => ?_, (qe.keep k1).keep k2⟩
    refine setix_ok hu sr3 (rx.keep k3) ry ((rv.keep k2).keep k3) w3 fun S4 H4 k4 sr4 w4 => ?_
    have kk := ((k1.trans k2).trans k3).trans k4
    exact kd.nx σ S4 τ H4 kk (er.keep kk) sr4 w4
theorem ss_aug {i : Nat} {x : Str} {op : Bop} {o : Operator} (hK : Z.K = X.K) (hN : X.N.Nodup) (hi : X.N[i]? = some x) (hx : Loc X.env.scope x) (hf : X.fn x = true ∨ X.env.scope.names.lookup x = some .local) (ha : SE X Z W a₀ wa) (ho : o = bopOf op) :
    SS X Z W (.AugAssign (.Name x p) o a₀ pos) (fun K Xf σ S => match σ.get i with | some x => wa σ S (fun y S1 => augW op x y S1 (fun z S2 => K.nx (σ.set i (some z)) S2)) (fun x S1 => Xf x σ S1) | none => False) := by
  subst ho
  refine PS.imp (ps_aug hN hi hx ha (rAny.ok X (inplaceOp (bopOf op))) hf) fun D τ H ⟨σ, S, K, Xf, er, sr, w, kd, kx⟩ => ?_
  dsimp only at w
  split at w
  · rename_i d e
    obtain ⟨v, h1, h2⟩ := er.2 i d e
    refine ⟨v, h1, σ, S, _, _, er, sr, w, fun dy y S1 H1 k1 sr1 ry w1 => ?_, kx.kx er⟩
    refine aug_ok hK sr1 (h2.keep k1) ry w1 fun dz z S2 H2 k2 sr2 rz w2 => ?_
    exact kd.nx _ S2 _ H2 (k1.trans k2) (((er.keep k1).keep k2).set i rz) sr2 w2
  · exact w.elim
theorem ss_setat {f : Nat} {x : Str} (F : FX X Z G k) (hf : f < Z.nf) (hx : x = Z.fld f) (hv : SE X Z W a₀ wa) (ho : SE X Z W b₀ wb) (hs : swapsWith a₀ (some (.Attribute b₀ x p)) pos.line X.env = pure false) :
    SS X Z W (.Assign [.Attribute b₀ x p] a₀ pos) (fun K Xf σ S => wa σ S (fun v S1 => wb σ S1 (fun x S2 => match x with | .ref p => (match S2 p with | some (.ins c fs) => fs.length < 1000 ∧ K.nx σ (S2.upd p (.ins c (fput f v fs))) | _ => False) | _ => False) (fun x S1 => Xf x σ S1)) (fun x S1 => Xf x σ S1)) := by
  subst hx
  refine PS.imp (ps_fld ho hv hs) fun D τ H ⟨σ, S, K, Xf, er, sr, w, kd, kx⟩ => ?_
  have qe := kx.kx er
  refine ⟨σ, S, _, _, er, sr, w, fun dv v S1 H1 k1 sr1 rv w1 => ?_, qe⟩
  refine ⟨σ, S1, _, _, er.keep k1, sr1, w1, fun dx x S2 H2 k2 sr2 rx w2 => ?_, qe.keep k1⟩
  dsimp only at w2
  split at w2
  · rename_i a
    cases rx
    split at w2
    · rename_i c fs e
      obtain ⟨hc, dx, gs, hq, rf⟩ := insAt sr2 e
      have tk : TK H2 (upd H2 a (.ins (Z.cla c) dx (putF (Z.fld f) v gs))) := TK.mut hq True.intro
      refine ⟨a, _, dx, gs, rfl, hq, F.cls c hc, F.na c f hc hf, by rw [← rf.length]; exact w2.1, ?_⟩
      exact kd.nx σ _ τ _ ((k1.trans k2).trans tk) (((er.keep k1).keep k2).keep tk) (sr2.put (c := .ins c (fput f dv fs)) tk ⟨hc, dx, _, upd_same, (rf.put f hf (rv.keep k2)).keep tk⟩) w2.2
    · exact w2.elim
  · exact w2.elim
/-- o.f as a target -/
def gAtt (K : PySem.W.Frag) (to : TE) (f : Str) : TG := fun v σ H Q => to σ H fun x H1 => ∃ a C dx fs, x = .ref a ∧ H1 a = some (.ins C dx fs) ∧ Cls K C ∧ NoAttr K C f ∧ fs.length < 1000 ∧ Q σ (upd H1 a (.ins C dx (putF f v fs)))
theorem pg_att {o : Expr} {f : Str} {to : TE} (ho : PE X o to) : PG X (.Attribute o f pos) (gAtt X.K to f) := by
  refine ⟨fun pins s σ H v u Q I r h => ?_⟩
  rw [assign_Attribute]
  refine wpAny_bind (wpAny_holding (thn (ho.run pins s σ H _ I h) fun ov s1 ⟨x, H1, I1, rx, a, C, dx, fs, ex, ea, c, n, l, q⟩ => ?_))
  subst ex
  obtain rfl : ov = Value.ref a := rx
  refine wpAny_bind (wpAny_standAt (wpAny_bind (wpAny_holding (setattr_ok I1 ea c n l r fun s2 I2 => wpAny_release ⟨σ, _, I2, q⟩))))
theorem att_put {f : Nat} {d : D} {v : V} {x : D} {u : V} {S : Sto} {H : Hp} {Qa : Sto → Prop} {Q : Hp → Prop} (F : FX X Z G k) (hf : f < Z.nf) (sr : SR Z S H) (rx : RD Z H x u) (rv : RD Z H d v) (h : putatW x f d S Qa) (q : ∀ S' H', TK H H' → SR Z S' H' → Qa S' → Q H') :
    ∃ a C dx fs, u = .ref a ∧ H a = some (.ins C dx fs) ∧ Cls X.K C ∧ NoAttr X.K C (Z.fld f) ∧ fs.length < 1000 ∧ Q (upd H a (.ins C dx (putF (Z.fld f) v fs))) := by
  unfold putatW at h
  split at h
  · rename_i a
    cases rx
    split at h
    · rename_i c fs e
      obtain ⟨hc, dx, gs, hq, rf⟩ := insAt sr e
      have tk : TK H (upd H a (.ins (Z.cla c) dx (putF (Z.fld f) v gs))) := TK.mut hq True.intro
      exact ⟨a, _, dx, gs, rfl, hq, F.cls c hc, F.na c f hc hf, by rw [← rf.length]; exact h.1, q _ _ tk (sr.put (c := .ins c (fput f d fs)) tk ⟨hc, dx, _, upd_same, (rf.put f hf rv).keep tk⟩) h.2⟩
    · exact h.elim
  · exact h.elim
theorem ss_unpa {f g : Nat} {x y : Str} {kk : Nat} {p1 p2 tp : Pos} (F : FX X Z G k) (hc : X.calm = true) (hf : f < Z.nf) (hg : g < Z.nf) (hx : x = Z.fld f) (hy : y = Z.fld g) (ha : SE X Z W a₀ wa) (ho : SE X Z W b₀ wb) (ho2 : SE X Z W c₀ wc)
    (hs : swapsWithSole [.Tuple [.Attribute b₀ x p1, .Attribute c₀ y p2] kk tp] a₀ pos.line X.env = pure false) (hw : swappedStores [.Tuple [.Attribute b₀ x p1, .Attribute c₀ y p2] kk tp] a₀ X.env = pure none)
    (h1 : (assignEach [.Tuple [.Attribute b₀ x p1, .Attribute c₀ y p2] kk tp] X.env).map (·.2) = [assign (.Tuple [.Attribute b₀ x p1, .Attribute c₀ y p2] kk tp) X.env]) (hn : (assignEach [.Attribute b₀ x p1, .Attribute c₀ y p2] X.env).length = 2) (hst : (assignEach [.Attribute b₀ x p1, .Attribute c₀ y p2] X.env).findIdx? (·.1) = none)
    (h2 : (assignEach [.Attribute b₀ x p1, .Attribute c₀ y p2] X.env).map (·.2) = assign (.Attribute b₀ x p1) X.env :: (assignEach [.Attribute c₀ y p2] X.env).map (·.2)) (h3 : (assignEach [.Attribute c₀ y p2] X.env).map (·.2) = assign (.Attribute c₀ y p2) X.env :: (assignEach [] X.env).map (·.2)) :
    SS X Z W (.Assign [.Tuple [.Attribute b₀ x p1, .Attribute c₀ y p2] kk tp] a₀ pos) (fun K Xf σ S => wa σ S (fun d S1 => match d with | .tup [a, b] => wb σ S1 (fun x S2 => putatW x f a S2 (fun S3 => wc σ S3 (fun y S4 => putatW y g b S4 (fun S5 => K.nx σ S5)) (fun x S1 => Xf x σ S1))) (fun x S1 => Xf x σ S1) | _ => False) (fun x S1 => Xf x σ S1)) := by
  subst hx hy
  refine PS.imp (ps_asg ha (pg_tup (n := 2) hc (pgs_cons (pg_att ho) (pgs_cons (pg_att ho2) pgs_nil h3) h2) hn hst) hs hw h1) fun D τ H ⟨σ, S, K, Xf, er, sr, w, kd, kx⟩ => ?_
  have qe := kx.kx er
  refine ⟨σ, S, _, _, er, sr, w, fun d v S1 H1 k1 sr1 rv w1 => ?_, qe⟩
  dsimp only at w1
  split at w1
  · rename_i da db
    cases rv with
    | tup t rs =>
      cases rs with
      | cons ra rs =>
        cases rs with
        | cons rb rs =>
          cases rs
          refine ⟨_, _, rfl, by rw [← F.zk]; exact t.sq, rfl, _, _, rfl, ?_⟩
          refine ⟨σ, S1, _, _, er.keep k1, sr1, w1, fun dx x S2 H2 k2 sr2 rx w2 => ?_, qe.keep k1⟩
          refine att_put (Q := fun H' => gCons (gAtt X.K (TEx Z W wc) (Z.fld g)) gNil [_] τ H' D.nx) F hf sr2 rx (ra.keep k2) w2 fun S3 H3 k3 sr3 w3 => ?_
          have kk := (k1.trans k2).trans k3
          refine ⟨_, _, rfl, σ, S3, _, _, er.keep kk, sr3, w3, fun dy y S4 H4 k4 sr4 ry w4 => ?_, qe.keep kk⟩
          refine att_put (Q := fun H' => gNil [] τ H' D.nx) F hg sr4 ry ((((rb.keep k2).keep k3).keep k4)) w4 fun S5 H5 k5 sr5 w5 => ?_
          have kk2 := (kk.trans k4).trans k5
          exact ⟨rfl, kd.nx σ S5 τ H5 kk2 (er.keep kk2) sr5 w5⟩
  · exact w1.elim
theorem ss_augat {f : Nat} {x : Str} {op : Bop} {o : Operator} (F : FX X Z G k) (hf : f < Z.nf) (hx : x = Z.fld f) (hv : SE X Z W a₀ wa) (ho : SE X Z W b₀ wb) (hop : o = bopOf op) :
    SS X Z W (.AugAssign (.Attribute b₀ x p) o a₀ pos) (fun K Xf σ S => wb σ S (fun x S1 => match x with | .ref p => (match S1 p with | some (.ins c fs) => (match fget fs f with | some d => wa σ S1 (fun y S2 => augW op d y S2 (fun z S3 => (match S3 p with | some (.ins c' fs') => c' = c ∧ fs'.length < 1000 ∧ K.nx σ (S3.upd p (.ins c' (fput f z fs'))) | _ => False))) (fun x S1 => Xf x σ S1) | none => False) | _ => False) | _ => False) (fun x S1 => Xf x σ S1)) := by
  subst hx hop
  refine PS.imp (ps_fldaug ho hv (rAny.ok X (inplaceOp (bopOf op)))) fun D τ H ⟨σ, S, K, Xf, er, sr, w, kd, kx⟩ => ?_
  have qe := kx.kx er
  refine ⟨σ, S, _, _, er, sr, w, fun dx x S1 H1 k1 sr1 rx w1 => ?_, qe⟩
  dsimp only at w1
  split at w1
  · rename_i a
    cases rx
    split at w1
    · rename_i c fs e
      obtain ⟨hc, dx, gs, hq, rf⟩ := insAt sr1 e
      split at w1
      · rename_i d ef
        obtain ⟨v, hv1, hv2⟩ := rf.get f hf ef
        refine ⟨a, _, dx, gs, v, rfl, hq, F.cls c hc, F.na c f hc hf, hv1, ?_⟩
        refine ⟨σ, S1, _, _, er.keep k1, sr1, w1, fun dy y S2 H2 k2 sr2 ry w2 => ?_, qe.keep k1⟩
        refine aug_ok F.zk sr2 (hv2.keep k2) ry w2 fun dz z S3 H3 k3 sr3 rz w3 => ?_
        split at w3
        · rename_i c' fs' e'
          obtain ⟨rfl, hl, w3⟩ := w3
          obtain ⟨hc', dx', gs', hq', rf'⟩ := insAt sr3 e'
          have tk : TK H3 (upd H3 a (.ins (Z.cla c') dx' (putF (Z.fld f) z gs'))) := TK.mut hq' True.intro
          refine ⟨dx', gs', hq', by rw [← rf'.length]; exact hl, ?_⟩
          have kk := (k1.trans k2).trans k3
          exact kd.nx σ _ τ _ (kk.trans tk) ((er.keep kk).keep tk) (sr3.put (c := .ins c' (fput f dz fs')) tk ⟨hc', dx', _, upd_same, (rf'.put f hf rz).keep tk⟩) w3
        · exact w3.elim
      · exact w1.elim
    · exact w1.elim
  · exact w1.elim
theorem ss_ife {s1 s2 : List Stmt} {w1 w2 : WS0} (hc : SEt X Z W c₀ (toT wc)) (h1 : SSs X Z W s1 w1) (h2 : SSs X Z W s2 w2) :
    SS X Z W (.If c₀ s1 s2 pos) (fun K Xf σ S => toT wc σ S (fun r S1 => if r = true then w1 K Xf σ S1 else w2 K Xf σ S1) (fun x S1 => Xf x σ S1)) :=
  PS.imp (ps_if hc h1 h2) fun D τ H ⟨σ, S, K, Xf, er, sr, w, kd, kx⟩ => by
    refine ⟨σ, S, _, _, er, sr, w, fun r S1 H1 k1 sr1 w1 => ?_, kx.kx er⟩
    dsimp only at w1 ⊢
    cases r with
    | true => exact ⟨σ, S1, K, Xf, er.keep k1, sr1, w1, kd.keep k1, kx.keep k1⟩
    | false => exact ⟨σ, S1, K, Xf, er.keep k1, sr1, w1, kd.keep k1, kx.keep k1⟩
theorem ss_whl {body : List Stmt} {wb : WS0} (hp : PassesOwn (model X.prog X.w) X.A X.env X.xe) (hc : SEt X Z W c₀ (toT wc)) (hb : SSs X Z W body wb) :
    SS X Z W (.While c₀ body [] pos) (fun K Xf σ S => whlW (fun σ S Q => toT wc σ S Q (fun x S1 => Xf x σ S1)) (fun K σ S => wb K Xf σ S) K σ S) :=
  PS.imp (ps_while hp hc hb) fun D τ H ⟨σ, S, K, Xf, er, sr, ⟨Wi, ⟨m0, w0⟩, turn⟩, kd, kx⟩ => by
    refine ⟨fun m τ H' => TK H H' ∧ ∃ σ S, ER Z H' σ τ ∧ SR Z S H' ∧ Wi m σ S, ⟨m0, TK.refl H, σ, S, er, sr, w0⟩, fun m τ1 H1 ⟨k1, σ1, S1, er1, sr1, w1⟩ => ?_⟩
    refine ⟨σ1, S1, _, _, er1, sr1, turn m σ1 S1 w1, fun r S2 H2 k2 sr2 w2 => ?_, (kx.keep k1).kx er1⟩
    dsimp only at w2 ⊢
    cases r with
    | false => exact kd.nx σ1 S2 τ1 H2 (k1.trans k2) (er1.keep k2) sr2 w2
    | true =>
      refine ⟨fun τ' H' => ∃ m', m' < m ∧ TK H H' ∧ ∃ σ S, ER Z H' σ τ' ∧ SR Z S H' ∧ Wi m' σ S, fun _ _ h => h, ?_⟩
      refine ⟨σ1, S2, _, Xf, er1.keep k2, sr2, w2, ?_, kx.keep (k1.trans k2)⟩
      have z : ∀ σ' S' τ' H', TK H2 H' → ER Z H' σ' τ' → SR Z S' H' → (∃ m', m' < m ∧ Wi m' σ' S') → ∃ m', m' < m ∧ TK H H' ∧ ∃ σ S, ER Z H' σ τ' ∧ SR Z S H' ∧ Wi m' σ S := fun σ' S' τ' H' k' er' sr' ⟨m', hm, w'⟩ => ⟨m', hm, (k1.trans k2).trans k', σ', S', er', sr', w'⟩
      exact ⟨z, (kd.keep (k1.trans k2)).rt, (kd.keep (k1.trans k2)).nx, z⟩
theorem ss_for {body : List Stmt} {iter : Expr} {wi : Env → Sto → (List D → (Sto → Prop) → Sto → Prop) → QX → Prop} {wb : WS0} {t : Tg} (hK : Z.K = X.K) (hp : PassesOwn (model X.prog X.w) X.A X.env X.xe) (hc : X.calm = true) (hi : SI X Z W tg iter wi)
    (hg : PG X tg (gTg X.K t)) (hb : SSs X Z W body wb) (hs : ∀ x, foldedSetIterable iter X.env x = pure x) :
    SS X Z W (.For tg iter body [] pos) (fun K Xf σ S => wi σ S (fun ds live S1 => forW live t (fun K σ S => wb K Xf σ S) K ds σ S1) (fun x S1 => Xf x σ S1)) :=
  PS.imp (ps_for hp hc hi hg hb hs) fun D τ H ⟨σ, S, K, Xf, er, sr, w, kd, kx⟩ => by
    refine ⟨σ, S, _, _, er, sr, w, fun ds live S0 H0 J k0 sr0 wk w0 => ?_, kx.kx er⟩
    refine ⟨fun i m τ H' => m = ds.length - i ∧ i ≤ ds.length ∧ TK H0 H' ∧ ∃ σ S, ER Z H' σ τ ∧ SR Z S H' ∧ forW live t (fun K σ S => wb K Xf σ S) K (ds.drop i) σ S, ⟨_, rfl, Nat.zero_le _, TK.refl _, σ, S0, er.keep k0, sr0, w0⟩, ?_⟩
    rintro i m τ1 H1 ⟨rfl, hi, k1, σ1, S1, er1, sr1, w1⟩
    by_cases hlt : i < ds.length
    · rw [List.drop_eq_getElem_cons hlt] at w1
      obtain ⟨lv, w1⟩ := w1
      refine .inr ⟨wk.go i S1 H1 k1 sr1 lv hlt, fun τ' H' => TK H0 H' ∧ ∃ σ S, ER Z H' σ τ' ∧ SR Z S H' ∧ forW live t (fun K σ S => wb K Xf σ S) K (ds.drop (i + 1)) σ S, fun τ' H' h => ⟨_, by omega, rfl, hlt, h.1, h.2⟩, fun x H2 y => ?_⟩
      obtain ⟨k2, sm, rx⟩ := wk.yld i S1 H1 x H2 _ k1 sr1 lv (List.getElem?_eq_getElem hlt) y
      dsimp only at w1
      split at w1
      · rename_i σ2 e
        refine gTg_ok hK e rx (er1.keep k2) fun τ2 er2 => ?_
        refine ⟨σ2, S1, _, Xf, er2, sr1.same sm, w1, ?_, kx.keep ((k0.trans k1).trans k2)⟩
        have z : ∀ σ' S' τ' H', TK H2 H' → ER Z H' σ' τ' → SR Z S' H' → forW live t (fun K σ S => wb K Xf σ S) K (ds.drop (i + 1)) σ' S' → TK H0 H' ∧ ∃ σ S, ER Z H' σ τ' ∧ SR Z S H' ∧ forW live t (fun K σ S => wb K Xf σ S) K (ds.drop (i + 1)) σ S :=
          fun σ' S' τ' H' k' er' sr' w' => ⟨(k1.trans k2).trans k', σ', S', er', sr', w'⟩
        have kd' := kd.keep ((k0.trans k1).trans k2)
        exact ⟨z, kd'.rt, kd'.nx, z⟩
      · exact w1.elim
    · have e : i = ds.length := by omega
      subst e
      rw [List.drop_length] at w1
      exact .inl ⟨wk.stop S1 H1 k1 sr1 w1.1, kd.nx σ1 S1 τ1 H1 (k0.trans k1) er1 sr1 w1.2⟩
/-- x, y = e, f: no tuple is made -/
theorem ss_par {i j : Nat} {x y : Str} {px py pt : Pos} {kt k2 : Nat} {pt2 : Pos} (hc : X.calm = true) (hN : X.N.Nodup) (hi : X.N[i]? = some x) (hj : X.N[j]? = some y) (hij : i ≠ j) (hx : X.env.scope.names.lookup x = some .local) (hy : X.env.scope.names.lookup y = some .local)
    (ha : SAs X Z W [a₀, b₀] ws) (hw : swappedStores [.Tuple [.Name x px, .Name y py] kt pt] (.Tuple [a₀, b₀] k2 pt2) X.env = pure (some [x, y])) (hs : swapsWithSole [.Tuple [.Name x px, .Name y py] kt pt] (.Tuple [a₀, b₀] k2 pt2) pos.line X.env = pure false) :
    SS X Z W (.Assign [.Tuple [.Name x px, .Name y py] kt pt] (.Tuple [a₀, b₀] k2 pt2) pos) (fun K Xf σ S => ws σ S (fun ds S1 => ds.length ≤ sizeLine ∧ (match tgW (.tp [i, j]) (.tup ds) σ with | some σ' => K.nx σ' S1 | none => False)) (fun x S1 => Xf x σ S1)) :=
  PS.imp (ps_par hc hN hi hj hij hx hy ha hw hs) fun D τ H ⟨σ, S, K, Xf, er, sr, w, kd, kx⟩ => by
    refine ⟨σ, S, _, _, er, sr, w, fun ds vs S1 H1 k1 sr1 rs w1 => ?_, kx.kx er⟩
    obtain ⟨_, w1⟩ := w1
    split at w1
    · rename_i σ' e
      unfold tgW at e
      dsimp only at e
      split at e
      · rename_i hl
        cases e
        match ds, vs, rs, hl, w1 with
        | [d1, d2], _, .cons r1 (.cons r2 .nil), _, w1 => exact ⟨_, _, rfl, kd.nx _ S1 _ H1 k1 (((er.keep k1).set i r1).set j r2) sr1 w1⟩
      · cases e
    · exact w1.elim
theorem ss_par3 {i j l : Nat} {x y z : Str} {px py pz pt : Pos} {kt k2 : Nat} {pt2 : Pos} (hc : X.calm = true) (hN : X.N.Nodup) (hi : X.N[i]? = some x) (hj : X.N[j]? = some y) (hl : X.N[l]? = some z) (hij : i ≠ j) (hil : i ≠ l) (hjl : j ≠ l) (hx : X.env.scope.names.lookup x = some .local) (hy : X.env.scope.names.lookup y = some .local) (hz : X.env.scope.names.lookup z = some .local)
    (ha : SAs X Z W [a₀, b₀, c₀] ws) (hw : swappedStores [.Tuple [.Name x px, .Name y py, .Name z pz] kt pt] (.Tuple [a₀, b₀, c₀] k2 pt2) X.env = pure (some [x, y, z])) (hs : swapsWithSole [.Tuple [.Name x px, .Name y py, .Name z pz] kt pt] (.Tuple [a₀, b₀, c₀] k2 pt2) pos.line X.env = pure false) :
    SS X Z W (.Assign [.Tuple [.Name x px, .Name y py, .Name z pz] kt pt] (.Tuple [a₀, b₀, c₀] k2 pt2) pos) (fun K Xf σ S => ws σ S (fun ds S1 => ds.length ≤ sizeLine ∧ (match tgW (.tp [i, j, l]) (.tup ds) σ with | some σ' => K.nx σ' S1 | none => False)) (fun x S1 => Xf x σ S1)) :=
  PS.imp (ps_par3 hc hN hi hj hl hij hil hjl hx hy hz ha hw hs) fun D τ H ⟨σ, S, K, Xf, er, sr, w, kd, kx⟩ => by
    refine ⟨σ, S, _, _, er, sr, w, fun ds vs S1 H1 k1 sr1 rs w1 => ?_, kx.kx er⟩
    obtain ⟨_, w1⟩ := w1
    split at w1
    · rename_i σ' e
      unfold tgW at e
      dsimp only at e
      split at e
      · rename_i hl
        cases e
        match ds, vs, rs, hl, w1 with
        | [d1, d2, d3], _, .cons r1 (.cons r2 (.cons r3 .nil)), _, w1 => exact ⟨_, _, _, rfl, kd.nx _ S1 _ H1 k1 ((((er.keep k1).set i r1).set j r2).set l r3) sr1 w1⟩
      · cases e
    · exact w1.elim
end
end Mini
end L2
/-! Mini, part K: exceptions: clauses with and without a name, made, raised -/
namespace L2
namespace Mini
open PySem PySem.Spec PyProof.Rows
/-- a clause: its class, the slot of its name, its suite's reading -/
structure Hcl where
  c : Value
  sl : Option Nat
  ts : Addr → Value → Option Addr → TS
def Dsl (D : Ends) : Option Nat → Ends
  | none => D
  | some i => ⟨fun σ H => D.nx (σ.set i none) H, D.rt, fun σ H => D.bk (σ.set i none) H, fun σ H => D.ct (σ.set i none) H⟩
def σsl (σ : St) (a : Addr) : Option Nat → St
  | none => σ
  | some i => σ.set i (some (.ref a))
/-- what the clauses wish -/
def wHs (K : PySem.W.Frag) (Wout : WX) (D : Ends) : List Hcl → WX
  | [] => Wout
  | h :: r => fun cls d σ H => ∃ b, PySem.W.exmOne K cls h.c = some b ∧ (b = true → ∀ a, H a = none → h.ts a cls d (Dsl D h.sl) (σsl σ a h.sl) H) ∧ (b = false → wHs K Wout D r cls d σ H)
inductive HcOk (X : Cx) : List ExceptHandler → List Hcl → Prop
  | nil : HcOk X [] []
  | plain {x : Str} {c : Value} {ts : Addr → Value → Option Addr → TS} {b₀ : Stmt} {su : List Stmt} {np p1 : Pos} {hds : List ExceptHandler} {l : List Hcl} (hc : Names X x c)
      (hsu : ∀ (a : Addr) (oe : Obj) (cls : Value) (d : Option Addr) (pn : List (Addr × Obj)), Zc cls d oe → (∃ vs, oe.data = .fields vs) → PSs (X.suite a ((a, oe) :: pn)) (b₀ :: su) (ts a cls d)) (r : HcOk X hds l) :
      HcOk X (.ExceptHandler (some (.Name x np)) none (b₀ :: su) p1 :: hds) (⟨c, none, ts⟩ :: l)
  | named {x n : Str} {i : Nat} {c : Value} {ts : Addr → Value → Option Addr → TS} {b₀ : Stmt} {su : List Stmt} {np p1 : Pos} {hds : List ExceptHandler} {l : List Hcl} (hN : X.N.Nodup) (hi : X.N[i]? = some n) (hln : X.env.kindOf n = some .local) (hc : Names X x c)
      (hsu : ∀ (a : Addr) (oe : Obj) (cls : Value) (d : Option Addr) (pn : List (Addr × Obj)), Zc cls d oe → (∃ vs, oe.data = .fields vs) → PSs (X.suite a ((a, oe) :: pn)) (b₀ :: su) (ts a cls d)) (r : HcOk X hds l) :
      HcOk X (.ExceptHandler (some (.Name x np)) (some n) (b₀ :: su) p1 :: hds) (⟨c, some i, ts⟩ :: l)
section
variable {X : Cx} {body : List Stmt} {h₀ : ExceptHandler} {hds : List ExceptHandler} {l : List Hcl} {pos : Pos} {tb : WX → TS} {Wout : WX}
/-- behind the suite the state is the def's again -/
theorem SP.ofSuite {X : Cx} {D : Ends} {pins : List (Addr × Obj)} {a : Addr} {oe : Obj} {f : Flow} {s' : Shared} (ok : X.Ok) (h : SP (X.suite a ((a, oe) :: (X.pn ++ pins))) [] D f s') : SP X pins D f s' := by
  cases f with
  | next => exact let ⟨_, _, S6, q6⟩ := h; ⟨_, _, S6.unsuite ok, q6⟩
  | brk => exact let ⟨_, _, S6, q6⟩ := h; ⟨_, _, S6.unsuite ok, q6⟩
  | cont => exact let ⟨_, _, S6, q6⟩ := h; ⟨_, _, S6.unsuite ok, q6⟩
  | ret u => exact let ⟨_, _, _, S6, r6, q6⟩ := h; ⟨_, _, _, S6.unsuite ok, r6, q6⟩
/-- behind a suite with a name: the name is gone -/
theorem SP.ofNamed {X : Cx} {D : Ends} {pins : List (Addr × Obj)} {a : Addr} {oe : Obj} {i : Nat} {n : Str} {p1 : Pos} {f : Flow} {s' : Shared} (ok : X.Ok) (hN : X.N.Nodup) (hi : X.N[i]? = some n) (hln : X.env.kindOf n = some .local)
    (h : SP (X.suite a ((a, oe) :: (X.pn ++ pins))) [] (Dsl D (some i)) f s') : wpAny (model X.prog X.w) X.A (do bindName X.env n .none; unbindBehindTheSuite X.env n p1) (fun _ s7 => SP X pins D f s7) X.xe s' := by
  have fin : ∀ {σ6 : St} {H6 : Hp}, Inv (X.suite a ((a, oe) :: (X.pn ++ pins))) [] σ6 H6 s' → (∀ s7, Inv X pins (σ6.set i none) H6 s7 → SP X pins D f s7) →
    wpAny (model X.prog X.w) X.A (do bindName X.env n .none; unbindBehindTheSuite X.env n p1) (fun _ s7 => SP X pins D f s7) X.xe s' := fun S6 hq => gone_ok (S6.unsuite ok) hN hi hln hq
  cases f with
  | next => exact let ⟨_, _, S6, q6⟩ := h; fin S6 fun s7 J7 => ⟨_, _, J7, q6⟩
  | brk => exact let ⟨_, _, S6, q6⟩ := h; fin S6 fun s7 J7 => ⟨_, _, J7, q6⟩
  | cont => exact let ⟨_, _, S6, q6⟩ := h; fin S6 fun s7 J7 => ⟨_, _, J7, q6⟩
  | ret u => exact let ⟨_, _, _, S6, r6, q6⟩ := h; fin S6 fun s7 J7 => ⟨_, _, _, J7, r6, q6⟩
theorem SP.ofTry {D : Ends} {pins : List (Addr × Obj)} {xe : Value → Shared → Prop} {f : Flow} {s' : Shared} (ok : X.Ok) (h : SP (X.tr (X.pn ++ pins) xe) [] D f s') : SP X pins D f s' := by
  cases f with
  | next => exact let ⟨_, _, J, q⟩ := h; ⟨_, _, J.ofTry ok, q⟩
  | brk => exact let ⟨_, _, J, q⟩ := h; ⟨_, _, J.ofTry ok, q⟩
  | cont => exact let ⟨_, _, J, q⟩ := h; ⟨_, _, J.ofTry ok, q⟩
  | ret u => exact let ⟨_, _, _, J, r, q⟩ := h; ⟨_, _, _, J.ofTry ok, r, q⟩
/-- the clauses one after the other, the exception on the ground -/
theorem clauses_ok {pins : List (Addr × Obj)} {D : Ends} {s1 : Shared} {sI : Shared} {h3 : Heap} {a : Addr} {B : Heap} {σ' : St} {H' : Hp} {cls : Value} {d : Option Addr} (hs : X.stack = X.env :: X.outer) (hf : X.env.frame = some X.env.locals) (tk : Takes X Wout) (ok : X.Ok)
    (J : Inv X pins σ' H' sI) (nb : ∀ b o, sI.heap.get? b = some o → b ∉ frs X.stack → B.get? b = some o) (fl3 : HandSPX.FlyingZ B (X.env :: X.outer) a (Zc cls d) h3) (up : sI.heap.UpToSlots h3) (os : s1.os = sI.os) (ag : AllBare s1.gens) (na : H' a = none)
    (nL : a ≠ X.env.locals) (nF : a ∉ X.fs) : ∀ {hs' : List ExceptHandler} {l' : List Hcl}, HcOk X hs' l' → wHs X.K Wout D l' cls d σ' H' → wpAny (model X.prog X.w) X.A (handleBy (.ref a) X.env hs') (SP X pins D) X.xe { s1 with heap := h3 } := by
  obtain ⟨oe3, vs3, he3, hz3, hd3⟩ := fl3.there
  have J3 : Inv X pins σ' H' { s1 with heap := h3 } := J.landed nb fl3.1 up os ag
  have S3 := J3.suite he3 hd3 na nL nF
  -- the clause's test
  have tst : ∀ {x : Str} {c : Value} {np : Pos} {b : Bool} {Q : Bool → Shared → Prop} {E : Value → Shared → Prop}, Names X x c → PySem.W.exmOne X.K cls c = some b → (∀ {Q' : Value → Shared → Prop}, Q' c { s1 with heap := h3 } → wpAny (model X.prog X.w) (X.A.mark (some (.ref a))) (eval (.Name x np) X.env) Q' E { s1 with heap := h3 }) := by
    intro x c np b Q E hc hb Q' q
    obtain ⟨hg, hdbg, hm | ⟨hm, hv, hnn⟩⟩ := hc
    · exact ld_glob (X := X.suite a ((a, oe3) :: (X.pn ++ pins))) S3 hg hm q hdbg
    · exact ld_blt (X := X.suite a ((a, oe3) :: (X.pn ++ pins))) S3 hg hm hv q hnn hdbg
  have LT : PySem.W.Looks (model X.prog X.w) h3 (typeOf (.ref a)) cls := fun A Q E s k q => wpAny_typeOf_ref (k _ _ he3) (by rw [hz3.1]; exact q)
  intro hs' l' hk
  induction hk with
  | nil =>
    intro w
    obtain ⟨k1, k2, k3, oe, vs, T, oT, tsz, he, hz, hd, h1, hr⟩ := id fl3
    refine wpAny_handleBy_nil ?_
    unfold PySem.passOn
    refine wpAny_bind (wpAny_field he hd h1 ?_)
    rw [if_neg (show ¬ ((Value.ref T == Value.none) = true) by simp)]
    have fin : wpAny (model X.prog X.w) X.A (setFlight (.ref a) X.env.frame) (fun _ s4 => wpAny (model X.prog X.w) X.A (throw (.ref a) : Sem Flow) (SP X pins D) X.xe s4) X.xe { s1 with heap := h3 } := by
      rw [hf]
      refine HandSPX.setFlight_upZ fl3 fun h4 hh4 up4 => wpAny_throw (tk _ _ ?_)
      refine ⟨a, B, sI, pins, σ', H', cls, d, rfl, J, nb, up.trans up4, .inr (.inr ?_), na, os, ag, w⟩
      rw [hs]; exact hh4
    first
      | exact wpAny_bind (wpAny_pure (wpAny_bind fin))
      | exact wpAny_bind fin
  | @plain x c ts b₀ su np p1 hds2 l2 hc hsu r ih =>
    intro w
    obtain ⟨b, hb1, hyes, hno⟩ := w
    refine wpAny_handleBy_cons (codeAny_handlers_test (tst (b := b) (Q := fun _ _ => True) hc hb1 ((PySem.W.exm_one (M := model X.prog X.w) J3.kIn LT hb1).here ?_))) (by intro q; cases q)
    cases b with
    | false => exact ih (hno rfl)
    | true =>
      refine codeAny_handlers_suite (HandSPX.lands_againZ fl3 fun h4 fl4 up4 => ?_)
      obtain ⟨oe4, vs4, he4, hz4, hd4⟩ := fl4.there
      have J4 : Inv X pins σ' H' { s1 with heap := h4 } := J.landed nb fl4.1 (up.trans up4) os ag
      exact wpAny_mono ((hsu a oe4 cls d (X.pn ++ pins) hz4 ⟨_, hd4⟩).run [] _ _ H' _ (J4.suite he4 hd4 na nL nF) (hyes rfl a na)) (fun f s6 h => SP.ofSuite ok h) fun _ _ z => z.elim
  | @named x n i c ts b₀ su np p1 hds2 l2 hN hi hln hc hsu r ih =>
    intro w
    obtain ⟨b, hb1, hyes, hno⟩ := w
    refine wpAny_handleBy_cons (codeAny_handlers_test (tst (b := b) (Q := fun _ _ => True) hc hb1 ((PySem.W.exm_one (M := model X.prog X.w) J3.kIn LT hb1).here ?_))) (by intro q; cases q)
    cases b with
    | false => exact ih (hno rfl)
    | true =>
      refine codeAny_handlers_suite_as (HandSPX.lands_againZ fl3 fun h4 fl4 up4 => ?_)
      obtain ⟨oe4, vs4, he4, hz4, hd4⟩ := fl4.there
      have J4 : Inv X pins σ' H' { s1 with heap := h4 } := J.landed nb fl4.1 (up.trans up4) os ag
      refine store_ok (X := X.suite a ((a, oe4) :: (X.pn ++ pins))) (v := .ref a) (J4.suite he4 hd4 na nL nF) hN hi (.inl hln) rfl (fun s5 S5 => ?_) (.inr hln)
      refine wpAny_mono ((hsu a oe4 cls d (X.pn ++ pins) hz4 ⟨_, hd4⟩).run [] s5 _ H' _ S5 (hyes rfl a na)) (fun f s6 h => ?_) fun _ _ z => z.elim
      have e := SP.ofNamed (p1 := p1) ok hN hi hln h
      cases f <;> exact e
theorem ps_tryH (hs : X.stack = X.env :: X.outer) (hf : X.env.frame = some X.env.locals) (tk : Takes X Wout)
    (hb : ∀ (W : WX) (pn : List (Addr × Obj)) (xe : Value → Shared → Prop), Takes (X.tr pn xe) W → PassesOwn (model X.prog X.w) X.A X.env xe → PSs (X.tr pn xe) body (tb W)) (hh : HcOk X (h₀ :: hds) l) :
    PS X (.Try body (h₀ :: hds) [] [] pos) (fun D σ H => tb (wHs X.K Wout D l) D σ H) := by
  refine ⟨fun pins s σ H D I h => wpAny_Try_except ?_⟩
  have ok := I.ok
  have hfr : X.A.frames = some (X.env :: X.outer) := by rw [ok.frames, hs]
  refine wpAny_mono ((hb _ (X.pn ++ pins) (fun e s₁ => wpAny (model X.prog X.w) X.A (noteFrame e X.env) (fun _ s₂ => wpAny (model X.prog X.w) X.A (setFlight e none) (fun _ s₃ => wpAny (model X.prog X.w) X.A (handleBy e X.env (h₀ :: hds)) (SP X pins D) X.xe s₃) X.xe s₂) X.xe s₁)
    (fun u s' xx => ?_) PassesOwn.looking).run [] s σ H D (I.toTry _) h) (fun f s1 hsp => ?_) (fun _ _ he => he)
  · obtain ⟨a, B, sI, pins', σ', H', cls, d, rfl, J', nb, up, sky, na, os, ag, w⟩ := xx
    have J : Inv X pins σ' H' sI := J'.ofTry ok
    have sky' : Sky B (X.env :: X.outer) a (Zc cls d) X.env.locals s'.heap := by rw [← hs]; exact sky
    show wpAny _ _ (noteFrame (.ref a) X.env) _ _ _
    refine Sky.land Zc.steady hfr hf sky' fun h3 fl3 up3 => ?_
    obtain ⟨oe3, vs3, he3, hz3, hd3⟩ := fl3.there
    have nfr : a ∉ frs (X.env :: X.outer) := fun hm => by
      obtain ⟨_, o', e', hnf⟩ := fl3.2.2.1.mem hm
      rw [he3] at e'
      cases e'
      exact hnf _ hd3
    have nL : a ≠ X.env.locals := fun z => nfr (List.mem_filterMap.mpr ⟨X.env, List.mem_cons_self, by rw [hf, z]⟩)
    have nF : a ∉ X.fs := fun hm => let ⟨e, he, q⟩ := List.mem_filterMap.mp hm; nfr (List.mem_filterMap.mpr ⟨e, List.mem_cons_of_mem _ he, q⟩)
    exact clauses_ok hs hf tk ok J nb fl3 (up.trans up3) os ag na nL nF hh w
  · have q := SP.ofTry ok hsp
    cases f with
    | next => exact wpAny_execs_nil q
    | brk => exact q
    | cont => exact q
    | ret u => exact q
end
end Mini
end L2
/-! Mini, part L: raise, try -/
namespace L2
namespace Mini
open PySem PySem.Spec PyProof.Rows
/-- what «except C» says of an exception of class c -/
theorem exm_of {K : PySem.W.Frag} {c C : Addr} {b : Bool} (h1 : PySem.W.subIn K (.ref C) (.type "BaseException") = some true) (h2 : PySem.W.isClsIn K C = true) (h3 : PySem.W.typeIn K (.ref C) = some (.type "type"))
    (h4 : PySem.W.subIn K (.ref c) (.ref C) = some b) : PySem.W.exmOne K (.ref c) (.ref C) = some b := by
  have q2 : (PySem.W.clsIn K C).isSome = true := h2
  unfold PySem.W.exmOne PySem.W.kitCls
  rw [h1]
  dsimp only
  rw [h3, q2, h4]
  simp
/-- X(), X an own class without own __init__ -/
theorem mx0 {X : Cx} {C : Addr} {bmB : List Value} {B newId initId : String} {x : Str} {p pos : Pos} (F : ExcBaseFacts B newId initId bmB) (q : PySem.W.excIn X.K C bmB newId = true) (gC : X.mg x = some (.ref C)) (kC : PySem.W.keepIn X.K (.ref C) = true) (r : Raises X (.ref C)) (hg : Gl X x)
    (hdb : (x == ("__debug__" : Str)) = false) : PMk X (.Call (.Name x p) [] [] pos) (fun _ H Q => Q (.ref C) none H) := by
  intro pins s σ H Q I h
  refine wpAny_Call_Name_kw (ld_glob I hg gC ?_ hdb)
  refine PySem.W.callWith_K0 I.kIn kC ?_
  show wpAny _ _ (call (.ref C) []) _ _ _
  obtain ⟨bm, N, nm, qn, bs, hdct, sn, sub, ab, col, dd, k0, k1, k2, k3, k5, mN, hC, hN, hni, T⟩ := exc_obj I.kIn q
  obtain ⟨hp1, g1, d1, tk1, os1⟩ := s
  exact wpAny_call_exc_subT F T hC hN hni (fun h' e hm => mk_of I hm r h (I.hok.gone hm.new)) (Nat.zero_le _)
/-- __init__(self, ..): self.f = .. -/
def SpI (C : Addr) (fn : List Str) : Sp := fun vs H Q _ => ∃ (a : Addr) (us : List V), vs = .ref a :: us ∧ us.length = fn.length ∧ H a = some (exo a C none) ∧ ∀ d, H d = none → d ≠ a → Q .non (upd (upd H d (exd d (fn.zip us).reverse)) a (exo a C (some d)))
section
variable {P : Program} {w : World} {K : PySem.W.Frag} {mg : Str → Option Value} {base : Heap}
theorem ok_ini1 {x qual sf a1 f1 : Str} {st : Stmt} {f C : Addr} {fd : FuncData} (F : Fun K x qual st f fd) (S : FnScope [sf, a1] [sf, a1] (defScope st)) (T : OexC K C) (n1 : PySem.W.findIn K (.ref C) f1 = some none)
    (hb : ∀ (cdv : Value) (A : Around) (outer : List PySem.Env) (s : Shared) (H : Hp) (E : XK), PSs (cxOf (L2.CX P w) P w K mg base [sf, a1] qual (defScope st) f cdv A outer s H E) (defBody st) (tSeq (tOst K f1 (tVar 0) (tVar 1)) tNext)) :
    FnOk P w K mg base (L2.CX P w) 1 f fd [sf, a1] (SpI C [f1]) := by
  refine F.okX S (fun vs H Q E h => ?_) (fun cdv A outer s H vs Q E hr h => ⟨_, hb cdv A outer s H E, ?_⟩)
  · obtain ⟨a, us, rfl, hl, _⟩ := h
    simpa using hl
  · obtain ⟨a, us, rfl, hl, ha, q⟩ := h
    obtain ⟨u, rfl⟩ : ∃ u, us = [u] := by
      match us, hl with
      | [u], _ => exact ⟨u, rfl⟩
    exact ⟨u, rfl, .ref a, rfl, a, C, rfl, T, n1, .inl ⟨ha, fun dx n ne => q dx n ne⟩⟩
theorem ok_ini2 {x qual sf a1 a2 f1 f2 : Str} {st : Stmt} {f C : Addr} {fd : FuncData} (F : Fun K x qual st f fd) (S : FnScope [sf, a1, a2] [sf, a1, a2] (defScope st)) (T : OexC K C) (n1 : PySem.W.findIn K (.ref C) f1 = some none) (n2 : PySem.W.findIn K (.ref C) f2 = some none)
    (hb : ∀ (cdv : Value) (A : Around) (outer : List PySem.Env) (s : Shared) (H : Hp) (E : XK), PSs (cxOf (L2.CX P w) P w K mg base [sf, a1, a2] qual (defScope st) f cdv A outer s H E) (defBody st) (tSeq (tOst K f1 (tVar 0) (tVar 1)) (tSeq (tOst K f2 (tVar 0) (tVar 2)) tNext))) :
    FnOk P w K mg base (L2.CX P w) 1 f fd [sf, a1, a2] (SpI C [f1, f2]) := by
  refine F.okX S (fun vs H Q E h => ?_) (fun cdv A outer s H vs Q E hr h => ⟨_, hb cdv A outer s H E, ?_⟩)
  · obtain ⟨a, us, rfl, hl, _⟩ := h
    simpa using hl
  · obtain ⟨a, us, rfl, hl, ha, q⟩ := h
    obtain ⟨u, v, rfl⟩ : ∃ u v, us = [u, v] := by
      match us, hl with
      | [u, v], _ => exact ⟨u, v, rfl⟩
    refine ⟨u, rfl, .ref a, rfl, a, C, rfl, T, n1, .inl ⟨ha, fun dx n ne => ?_⟩⟩
    refine ⟨v, rfl, .ref a, rfl, a, C, rfl, T, n2, .inr ⟨dx, _, upd_same, by rw [upd_ne ne]; exact upd_same, by show 1 ≤ 900; decide, ?_⟩⟩
    have e : upd (upd (upd H dx (exd dx [(f1, u)])) a (exo a C (some dx))) dx (exd dx ((f2, v) :: [(f1, u)])) = upd (upd H dx (exd dx (([f1, f2].zip [u, v]).reverse))) a (exo a C (some dx)) := by
      funext b
      by_cases h1 : b = dx
      · subst h1; rw [upd_same, upd_ne ne, upd_same]; rfl
      · rw [upd_ne h1]
        by_cases h2 : b = a
        · subst h2; rw [upd_same, upd_same]
        · rw [upd_ne h2, upd_ne h2, upd_ne h1, upd_ne h1]
    rw [e]
    exact q dx n ne
end
section
variable {X : Cx} {Z : Nm} {G : Gam} {k : Nat} {W : WX} {a₀ b₀ c₀ e₀ tg : Expr} {es₀ : List Expr} {wa wb wc : WE0} {ws : Env → Sto → (List D → Sto → Prop) → QX → Prop} {pos apos p : Pos}
theorem RF.app {H : Hp} : ∀ {fs gs : List (Nat × D)} {hs ks : List (Str × V)}, RF Z H fs hs → RF Z H gs ks → RF Z H (fs ++ gs) (hs ++ ks)
  | _, _, _, _, .nil, r => r
  | _, _, _, _, .cons l r t, q => .cons l r (RF.app t q)
theorem RF.rev {H : Hp} : ∀ {fs : List (Nat × D)} {hs : List (Str × V)}, RF Z H fs hs → RF Z H fs.reverse hs.reverse
  | _, _, .nil => .nil
  | _, _, .cons l r t => by
    rw [List.reverse_cons, List.reverse_cons]
    exact RF.app (RF.rev t) (.cons l r .nil)
theorem RF.zip {H : Hp} : ∀ {fl : List Nat} {ds : List D} {vs : List V}, (∀ f ∈ fl, f < Z.nf) → RDs Z H ds vs → RF Z H (fl.zip ds) ((fl.map Z.fld).zip vs)
  | [], _, _, _, _ => by simp only [List.zip_nil_left, List.map_nil]; exact .nil
  | f :: fl, [], _, _, r => by cases r; exact .nil
  | f :: fl, d :: ds, _, h, r => by
    cases r with
    | cons r rs => exact .cons (h f List.mem_cons_self) r (RF.zip (fun g hg => h g (List.mem_cons_of_mem _ hg)) rs)
theorem ss_raise0 {c : Nat} {x : Str} {bmB : List Value} {B newId initId : String} (hc : X.calm = true) (tk : Takes X W) (cn : Z.nc ≤ c ∧ c < Z.nx) (hf : G.xfl c = []) (F : ExcBaseFacts B newId initId bmB) (q : PySem.W.excIn X.K (Z.cla c) bmB newId = true)
    (gC : X.mg x = some (.ref (Z.cla c))) (kC : PySem.W.keepIn X.K (.ref (Z.cla c)) = true) (r : Raises X (.ref (Z.cla c))) (hg : Gl X x) (hdb : (x == ("__debug__" : Str)) = false) :
    SS X Z W (.Raise (some (.Call (.Name x p) [] [] apos)) none pos) (fun K Xf σ S => 0 = (G.xfl c).length ∧ Xf ⟨c, ((G.xfl c).zip []).reverse⟩ σ S) :=
  PS.imp (ps_raise hc tk (mx0 F q gC kC r hg hdb)) fun D τ H ⟨σ, S, K, Xf, er, sr, w, kd, kx⟩ => by
    have w2 := w.2
    rw [hf] at w2
    exact kx ⟨c, []⟩ _ none σ S τ H (TK.refl H) er sr ⟨cn, rfl, rfl⟩ w2
theorem ss_raiseI {c fI j : Nat} {f : Addr} {x : Str} {fd : FuncData} {ps : List Str} (hc : X.calm = true) (tk : Takes X W) (cn : Z.nc ≤ c ∧ c < Z.nx) (hfl : ∀ f ∈ G.xfl c, f < Z.nf) (T : OexC X.K (Z.cla c)) (iC : PySem.W.findIn X.K (.ref (Z.cla c)) "__init__" = some (some (.ref f)))
    (tI : PySem.W.typeIn X.K (.ref f) = some (.type "function")) (F1 : FnOk X.prog X.w X.K X.mg X.base (L2.CX X.prog X.w) 1 f fd ps (SpI (Z.cla c) ((G.xfl c).map Z.fld))) (hr : Room 2 X.A) (hb : Binds X.K fd ps []) (hg : Gl X x) (hm : X.mg x = some (.ref (Z.cla c))) (ha : SAs X Z W (e₀ :: es₀) ws)
    (hdb : (x == ("__debug__" : Str)) = false) (he : starEach (e₀ :: es₀) X.env = (false, eval e₀ X.env) :: starEach es₀ X.env) (hpl : (backTo apos (starEach es₀ X.env)).any (·.1) = false) (hsm : (G.xfl c).length ≤ 1000) :
    SS X Z W (.Raise (some (.Call (.Name x p) (e₀ :: es₀) [] apos)) none pos) (fun K Xf σ S => ws σ S (fun ds S1 => ds.length = (G.xfl c).length ∧ Xf ⟨c, ((G.xfl c).zip ds).reverse⟩ σ S1) (fun x S1 => Xf x σ S1)) :=
  PS.imp (ps_raise hc tk (pmk_oex T iC tI F1 hr hb .nil (passes_call takes0 (fun _ _ _ _ z => z)) hg hm ha hdb he hpl)) fun D τ H ⟨σ, S, K, Xf, er, sr, w, kd, kx⟩ => by
    refine ⟨σ, S, _, _, er, sr, w, fun ds vs S1 H1 k1 sr1 rs w1 => ?_, kx.kx er⟩
    have hl := rs.length
    refine ⟨by omega, fun a na => ⟨a, vs, by rw [List.append_nil], by rw [List.length_map]; omega, upd_same, fun d nd ne => ?_⟩⟩
    have hd1 : H1 d = none := by rw [upd_ne ne] at nd; exact nd
    refine ⟨rfl, d, _, upd_same, by rw [upd_ne ne]; exact upd_same, hd1, ?_⟩
    have e : upd (del (upd (upd (upd H1 a (exo a (Z.cla c) none)) d (exd d (((G.xfl c).map Z.fld).zip vs).reverse)) a (exo a (Z.cla c) (some d))) a) d (.xd (((G.xfl c).map Z.fld).zip vs).reverse) = upd H1 d (.xd (((G.xfl c).map Z.fld).zip vs).reverse) := by
      funext b
      by_cases h1 : b = d
      · subst h1; rw [upd_same, upd_same]
      · rw [upd_ne h1, upd_ne h1]
        by_cases h2 : b = a
        · subst h2; rw [del_same]; exact na.symm
        · rw [del_ne h2, upd_ne h2, upd_ne h1, upd_ne h2]
    rw [e]
    have tk2 : TK H1 (upd H1 d (.xd (((G.xfl c).map Z.fld).zip vs).reverse)) := TK.new hd1
    exact kx _ _ _ σ S1 τ _ (k1.trans tk2) ((er.keep k1).keep tk2) (sr1.new hd1) ⟨cn, rfl, _, upd_same, ((RF.zip hfl rs).rev).keep tk2⟩ w1.2
/-! ### clauses -/
def HsOk (X : Cx) (Z : Nm) (W : WX) (G : Gam) (hds : List ExceptHandler) (hs : List (Nat × Su)) : Prop := ∃ l, HcOk X hds l ∧ ∀ D K Xf H x cls dd σ S τ, KD Z H K D → KX Z W H Xf → ER Z H σ τ → SR Z S H → XR Z H x cls dd → tryW G hs x K Xf σ S → wHs X.K W D l cls dd τ H
def ExmOk (K : PySem.W.Frag) (Z : Nm) (G : Gam) (c : Nat) : Prop := ∀ c', Z.nc ≤ c' ∧ c' < Z.nx → PySem.W.exmOne K (.ref (Z.cla c')) (.ref (Z.cla c)) = some (G.xsub c' c)
theorem hs_nil : HsOk X Z W G [] [] := ⟨[], .nil, fun D K Xf H x cls dd σ S τ kd kx er sr xr w => kx x cls dd σ S τ H (TK.refl H) er sr xr w⟩
theorem hs_step {c : Nat} {su : Su} {hs : List (Nat × Su)} {D : Ends} {K : En} {Xf : EX} {H : Hp} {x : Xn} {cls : Value} {dd : Option Addr} {σ : Env} {S : Sto} {τ : St} {l : List Hcl} {h : Hcl} (ex : ExmOk X.K Z G c) (hc : h.c = .ref (Z.cla c)) (xr : XR Z H x cls dd)
    (w : tryW G ((c, su) :: hs) x K Xf σ S) (yes : suW su x K σ S → ∀ a, H a = none → h.ts a cls dd (Dsl D h.sl) (σsl τ a h.sl) H) (no : tryW G hs x K Xf σ S → wHs X.K W D l cls dd τ H) : wHs X.K W D (h :: l) cls dd τ H := by
  refine ⟨G.xsub x.c c, by rw [hc, xr.2.1]; exact ex x.c xr.1, fun e => ?_, fun e => ?_⟩
  · unfold tryW at w; rw [if_pos e] at w; exact yes w
  · unfold tryW at w; rw [if_neg (by rw [e]; exact Bool.false_ne_true)] at w; exact no w
theorem hs_ret {c : Nat} {x : Str} {np p1 : Pos} {hds : List ExceptHandler} {hs : List (Nat × Su)} {e : Expr} {d : D} {v : V} (ex : ExmOk X.K Z G c) (hc : Names X x (.ref (Z.cla c))) (he : ∀ (a : Addr) (pn : List (Addr × Obj)), PE (X.suite a pn) e (tC v)) (rd : ∀ H, RD Z H d v)
    (r : HsOk X Z W G hds hs) : HsOk X Z W G (.ExceptHandler (some (.Name x np)) none [.Return (some e) pos] p1 :: hds) ((c, .ret (.lit d)) :: hs) := by
  obtain ⟨l, hl, hr⟩ := r
  refine ⟨_, .plain hc (fun a oe cls dd pn _ _ => pss_one (ps_ret (he a _))) hl, fun D K Xf H x cls dd σ S τ kd kx er sr xr w => hs_step ex rfl xr w (fun w1 a na => ?_) fun w1 => hr D K Xf H x cls dd σ S τ kd kx er sr xr w1⟩
  exact kd.rt d v S H (TK.refl H) sr (rd H) w1
theorem hs_cnt {c : Nat} {x : Str} {np p1 : Pos} {hds : List ExceptHandler} {hs : List (Nat × Su)} (ex : ExmOk X.K Z G c) (hc : Names X x (.ref (Z.cla c))) (r : HsOk X Z W G hds hs) :
    HsOk X Z W G (.ExceptHandler (some (.Name x np)) none [.Continue pos] p1 :: hds) ((c, .cnt) :: hs) := by
  obtain ⟨l, hl, hr⟩ := r
  refine ⟨_, .plain hc (fun a oe cls dd pn _ _ => pss_one ps_continue) hl, fun D K Xf H x cls dd σ S τ kd kx er sr xr w => hs_step ex rfl xr w (fun w1 a na => ?_) fun w1 => hr D K Xf H x cls dd σ S τ kd kx er sr xr w1⟩
  exact kd.ct σ S τ H (TK.refl H) er sr w1
theorem hs_pass {c : Nat} {x : Str} {np p1 : Pos} {hds : List ExceptHandler} {hs : List (Nat × Su)} (ex : ExmOk X.K Z G c) (hc : Names X x (.ref (Z.cla c))) (r : HsOk X Z W G hds hs) :
    HsOk X Z W G (.ExceptHandler (some (.Name x np)) none [.Pass pos] p1 :: hds) ((c, .pass) :: hs) := by
  obtain ⟨l, hl, hr⟩ := r
  refine ⟨_, .plain hc (fun a oe cls dd pn _ _ => pss_one ps_pass) hl, fun D K Xf H x cls dd σ S τ kd kx er sr xr w => hs_step ex rfl xr w (fun w1 a na => ?_) fun w1 => hr D K Xf H x cls dd σ S τ kd kx er sr xr w1⟩
  exact kd.nx σ S τ H (TK.refl H) er sr w1
theorem hs_set {c i : Nat} {x y : Str} {np p1 p2 : Pos} {hds : List ExceptHandler} {hs : List (Nat × Su)} {e : Expr} {d : D} {v : V} (ex : ExmOk X.K Z G c) (hc : Names X x (.ref (Z.cla c))) (he : ∀ (a : Addr) (pn : List (Addr × Obj)), PE (X.suite a pn) e (tC v)) (rd : ∀ H, RD Z H d v)
    (hN : X.N.Nodup) (hi : X.N[i]? = some y) (hx : Loc X.env.scope y) (hf : X.fn y = true ∨ X.env.scope.names.lookup y = some .local) (hs' : swapsWith e (some (.Name y p2)) pos.line X.env = pure false)
    (r : HsOk X Z W G hds hs) : HsOk X Z W G (.ExceptHandler (some (.Name x np)) none [.Assign [.Name y p2] e pos] p1 :: hds) ((c, .set i d) :: hs) := by
  obtain ⟨l, hl, hr⟩ := r
  refine ⟨_, .plain hc (fun a oe cls dd pn _ _ => pss_one (ps_set (X := X.suite a ((a, oe) :: pn)) hN hi hx (he a _) hs' hf)) hl, fun D K Xf H x cls dd σ S τ kd kx er sr xr w => hs_step ex rfl xr w (fun w1 a na => ?_) fun w1 => hr D K Xf H x cls dd σ S τ kd kx er sr xr w1⟩
  exact kd.nx _ S _ H (TK.refl H) (er.set i (rd H)) sr w1
/-- e.f, e the exception that the suite holds -/
structure XfOk (K : PySem.W.Frag) (C : Addr) (f : Str) : Prop where
  ga : PySem.W.findIn K (.ref C) "__getattribute__" = some (some (.builtin "BaseException.__getattribute__"))
  gg : PySem.W.findIn K (.ref C) "__getattr__" = some none
  no : PySem.W.findIn K (.ref C) f = some none
  ex : PySem.W.subIn K (.ref C) (.type "BaseException") = some true
  hd : PySem.W.hasDictIn K C = true
def tXf (K : PySem.W.Frag) (a : Addr) (cls : Value) (d : Option Addr) (f : Str) (te : TE) : TE := fun σ H Q => te σ H fun x H1 => x = .ref a ∧ ∃ (C dd : Addr) (gs : List (Str × V)) (v : V), cls = .ref C ∧ XfOk K C f ∧ d = some dd ∧ H1 dd = some (.xd gs) ∧ gs.lookup f = some v ∧ Q v H1
theorem pe_xf {a : Addr} {oe : Obj} {cls : Value} {d : Option Addr} {pn : List (Addr × Obj)} {e : Expr} {te : TE} {f : Str} (hz : Zc cls d oe) (hf : ∃ vs, oe.data = .fields vs) (he : PE (X.suite a ((a, oe) :: pn)) e te)
    (hb : attributeBase e f X.env (eval e X.env) = eval e X.env) : PE (X.suite a ((a, oe) :: pn)) (.Attribute e f pos) (tXf X.K a cls d f te) := by
  refine ⟨fun pins s σ H Q I h => attr_of hb (thn (he.run pins s σ H _ I h) fun u s1 ⟨x, H1, I1, rx, ex, C, dd, gs, v, ec, T, ed, ea, lv, q⟩ => ?_)⟩
  subst ex ec ed
  obtain rfl : u = Value.ref a := rx
  obtain ⟨ha, _⟩ := I1.pin (a, oe) (List.mem_append_left _ List.mem_cons_self)
  obtain ⟨vs, hd⟩ := hf
  obtain ⟨mA, hns, hr⟩ := (I1.hok dd _ ea : ObjOk X.prog X.w H1 s1.heap dd (.xd gs))
  obtain ⟨od, ho, hl⟩ := lookIn_ns hns
  obtain ⟨u, hu, ru⟩ := RelO.some_of (v := v) (o := mA f) (by rw [← lv]; exact hr f)
  have J : PySem.W.InstAt s1.heap a oe C (some od) := by
    refine ⟨ha, hz.1, ?_, by rw [hz.2]; exact ho⟩
    unfold PySem.W.notCls
    rw [hd] <;> rfl
  exact HandSPX.exc_get I1.kIn J T.ga T.gg T.ex (PySem.W.findObj_own T.hd T.no rfl (by rw [hl, hu])) (handed_of ru) ⟨v, H1, I1.tok _, ru, q⟩
def XfsOk (K : PySem.W.Frag) (Z : Nm) (f : Nat) : Prop := f < Z.nf ∧ ∀ c, Z.nc ≤ c ∧ c < Z.nx → XfOk K (Z.cla c) (Z.fld f)
/-- the field's reading, at the exception in the suite -/
theorem xf_at {f i : Nat} {x : Xn} {cls : Value} {dd : Option Addr} {τ : St} {H : Hp} {a : Addr} {d : D} {Q : VK} (hK : Z.K = X.K) (xo : XfsOk X.K Z f) (xr : XR Z H x cls dd) (hi : i < τ.length) (e : fget x.fs f = some d) (q : ∀ v, RD Z H d v → Q v H) :
    tXf X.K a cls dd (Z.fld f) (tVar i) (τ.set i (some (.ref a))) H Q := by
  obtain ⟨cn, hc, hr⟩ := xr
  cases dd with
  | none => dsimp only at hr; rw [hr] at e; cases e
  | some b =>
    obtain ⟨gs, hb, rf⟩ := hr
    obtain ⟨v, hv, rv⟩ := rf.get f xo.1 e
    exact ⟨_, List.getElem?_set_self hi, rfl, _, b, gs, v, hc, xo.2 x.c cn, rfl, hb, hv, q v rv⟩
theorem hs_exf {c i f : Nat} {x n : Str} {np p1 p2 p3 : Pos} {hds : List ExceptHandler} {hs : List (Nat × Su)} {fx : Str} (hK : Z.K = X.K) (ex : ExmOk X.K Z G c) (hc : Names X x (.ref (Z.cla c))) (hN : X.N.Nodup) (hi : X.N[i]? = some n) (hln : X.env.kindOf n = some .local)
    (hv : Vis X.env.scope n) (hd : (n == ("__debug__" : Str)) = false) (hcd : (n == ("__classdict__" : Str)) = false) (hfx : fx = Z.fld f) (xo : XfsOk X.K Z f) (hb : attributeBase (.Name n p2) fx X.env (eval (.Name n p2) X.env) = eval (.Name n p2) X.env)
    (r : HsOk X Z W G hds hs) : HsOk X Z W G (.ExceptHandler (some (.Name x np)) (some n) [.Return (some (.Attribute (.Name n p2) fx p3)) pos] p1 :: hds) ((c, .ret (.exf i f)) :: hs) := by
  subst hfx
  obtain ⟨l, hl, hr⟩ := r
  refine ⟨_, .named hN hi hln hc (fun a oe cls dd pn hz hf => pss_one (ps_ret (pe_xf hz hf (pe_var (X := X.suite a ((a, oe) :: pn)) hi hv hd hcd) hb))) hl, fun D K Xf H x cls dd σ S τ kd kx er sr xr w => hs_step ex rfl xr w (fun w1 a na => ?_) fun w1 => hr D K Xf H x cls dd σ S τ kd kx er sr xr w1⟩
  obtain ⟨hil, d, e, w1⟩ := (w1 : i < σ.length ∧ ∃ d, fget x.fs f = some d ∧ K.rt d S)
  exact xf_at hK xo xr (by rw [er.1]; exact hil) e fun v rv => kd.rt d v S H (TK.refl H) sr rv w1
theorem hs_exf2 {c i f g k2 : Nat} {x n : Str} {np p1 p2 p3 p4 p5 p6 : Pos} {hds : List ExceptHandler} {hs : List (Nat × Su)} {fx gx : Str} (hK : Z.K = X.K) (ex : ExmOk X.K Z G c) (hc : Names X x (.ref (Z.cla c))) (hN : X.N.Nodup) (hi : X.N[i]? = some n) (hln : X.env.kindOf n = some .local)
    (hv : Vis X.env.scope n) (hd : (n == ("__debug__" : Str)) = false) (hcd : (n == ("__classdict__" : Str)) = false) (hfx : fx = Z.fld f) (hgx : gx = Z.fld g) (xo : XfsOk X.K Z f) (xo2 : XfsOk X.K Z g) (hb : attributeBase (.Name n p2) fx X.env (eval (.Name n p2) X.env) = eval (.Name n p2) X.env)
    (hb2 : attributeBase (.Name n p4) gx X.env (eval (.Name n p4) X.env) = eval (.Name n p4) X.env) (hs1 : starEach [.Attribute (.Name n p2) fx p3, .Attribute (.Name n p4) gx p5] X.env = (false, eval (.Attribute (.Name n p2) fx p3) X.env) :: starEach [.Attribute (.Name n p4) gx p5] X.env)
    (hs2 : starEach [.Attribute (.Name n p4) gx p5] X.env = (false, eval (.Attribute (.Name n p4) gx p5) X.env) :: starEach [] X.env)
    (r : HsOk X Z W G hds hs) : HsOk X Z W G (.ExceptHandler (some (.Name x np)) (some n) [.Return (some (.Tuple [.Attribute (.Name n p2) fx p3, .Attribute (.Name n p4) gx p5] k2 p6)) pos] p1 :: hds) ((c, .ret (.exf2 i f g)) :: hs) := by
  subst hfx hgx
  obtain ⟨l, hl, hr⟩ := r
  refine ⟨_, .named hN hi hln hc (fun a oe cls dd pn hz hf => pss_one (ps_ret (pe_tup (pa_cons (pe_xf hz hf (pe_var (X := X.suite a ((a, oe) :: pn)) hi hv hd hcd) hb) (pa_cons (pe_xf hz hf (pe_var (X := X.suite a ((a, oe) :: pn)) hi hv hd hcd) hb2) pa_nil hs2) hs1)))) hl, fun D K Xf H x cls dd σ S τ kd kx er sr xr w => hs_step ex rfl xr w (fun w1 a na => ?_) fun w1 => hr D K Xf H x cls dd σ S τ kd kx er sr xr w1⟩
  obtain ⟨hil, d, d2, e, e2, w1⟩ := (w1 : i < σ.length ∧ ∃ d d2, fget x.fs f = some d ∧ fget x.fs g = some d2 ∧ K.rt (.tup [d, d2]) S)
  have hil' : i < τ.length := by rw [er.1]; exact hil
  dsimp only [tRet, tTup, tCons, tNil, Dsl, σsl]
  refine xf_at hK xo xr hil' e fun v rv => ?_
  refine xf_at hK xo2 xr hil' e2 fun v2 rv2 => ?_
  refine ⟨by show 2 ≤ sizeLine; rw [sizeLine_eq]; omega, fun p hp => ?_⟩
  exact kd.rt _ _ S _ (TK.new hp) (sr.new hp) (.tup (.inl upd_same) (.cons (rv.keep (TK.new hp)) (.cons (rv2.keep (TK.new hp)) .nil))) w1
theorem ss_try {body : List Stmt} {h₀ : ExceptHandler} {hds : List ExceptHandler} {hs : List (Nat × Su)} {wb : WS0} (hst : X.stack = X.env :: X.outer) (hf : X.env.frame = some X.env.locals) (tk : Takes X W)
    (hb : ∀ (W' : WX) (pn : List (Addr × Obj)) (xe : Value → Shared → Prop), Takes (X.tr pn xe) W' → PassesOwn (model X.prog X.w) X.A X.env xe → SSs (X.tr pn xe) Z W' body wb) (hh : HsOk X Z W G (h₀ :: hds) hs) :
    SS X Z W (.Try body (h₀ :: hds) [] [] pos) (fun K Xf σ S => wb K (fun x σ' S' => tryW G hs x K Xf σ' S') σ S) := by
  obtain ⟨l, hl, hr⟩ := hh
  refine PS.imp (ps_tryH hst hf tk (tb := fun W' => TSx Z W' wb) hb hl) fun D τ H ⟨σ, S, K, Xf, er, sr, w, kd, kx⟩ => ?_
  exact ⟨σ, S, K, _, er, sr, w, kd, fun x cls dd σ' S' τ' H' k' er' sr' xr' w' => hr D K Xf H' x cls dd σ' S' τ' (kd.keep k') (kx.keep k') er' sr' xr' w'⟩
end
end Mini
end L2
/-! Mini, part M: comprehensions, enumerate, zip -/
namespace L2
namespace Mini
open PySem PySem.Spec PyProof.Rows
/-! ### slots wiped -/
theorem wipe_get (τ : St) (j : Nat) : ∀ vs : List Nat, (wipe τ vs)[j]? = if j ∈ vs then (if j < τ.length then some none else none) else τ[j]?
  | [] => by simp [wipe]
  | v :: vs => by
    unfold wipe
    by_cases h : v = j
    · subst h
      by_cases hl : v < τ.length
      · rw [List.getElem?_set_self (by rw [wipe_length]; exact hl)]; simp [hl]
      · rw [List.getElem?_eq_none (by rw [List.length_set, wipe_length]; omega)]; simp [hl]
    · rw [List.getElem?_set_ne h, wipe_get τ j vs]
      have : j ≠ v := fun e => h e.symm
      simp [this]
theorem wipe_put {τ : St} {i : Nat} {x : Option V} {vs : List Nat} (h : i ∈ vs) : wipe (τ.set i x) vs = wipe τ vs := by
  apply List.ext_getElem?
  intro j
  rw [wipe_get, wipe_get, List.length_set]
  by_cases hj : j ∈ vs
  · rw [if_pos hj, if_pos hj]
  · rw [if_neg hj, if_neg hj, List.getElem?_set_ne (fun e => hj (by rw [← e]; exact h))]
theorem wipe_wipe {τ : St} {vs : List Nat} : wipe (wipe τ vs) vs = wipe τ vs := by
  apply List.ext_getElem?
  intro j
  rw [wipe_get, wipe_get, wipe_length]
  by_cases hj : j ∈ vs
  · rw [if_pos hj, if_pos hj]
  · rw [if_neg hj, if_neg hj]
def wipeE (σ : Env) : List Nat → Env
  | [] => σ
  | v :: vs => (wipeE σ vs).set v none
theorem wipeE_length (σ : Env) : ∀ vs : List Nat, (wipeE σ vs).length = σ.length
  | [] => rfl
  | v :: vs => by unfold wipeE; rw [List.length_set, wipeE_length σ vs]
theorem wipeE_ne (σ : Env) {j : Nat} : ∀ {vs : List Nat}, j ∉ vs → (wipeE σ vs)[j]? = σ[j]?
  | [], _ => rfl
  | v :: vs, h => by
    have h1 : v ≠ j := fun e => h (by rw [e]; exact List.mem_cons_self)
    unfold wipeE
    rw [List.getElem?_set_ne h1, wipeE_ne σ fun z => h (List.mem_cons_of_mem _ z)]
theorem wipeE_in (σ : Env) {j : Nat} : ∀ {vs : List Nat}, j ∈ vs → (wipeE σ vs).get j = none
  | [], h => by cases h
  | v :: vs, h => by
    unfold wipeE Env.get
    by_cases e : v = j
    · subst e
      by_cases hl : v < (wipeE σ vs).length
      · rw [List.getElem?_set_self hl]
      · rw [List.getElem?_eq_none (by rw [List.length_set]; omega)]
    · rw [List.getElem?_set_ne e]
      rcases List.mem_cons.mp h with q | q
      · exact absurd q.symm e
      · exact wipeE_in σ q
theorem ER.wipe {Z : Nm} {H : Hp} {σ : Env} {τ : St} (e : ER Z H σ τ) (vs : List Nat) : ER Z H (wipeE σ vs) (L2.wipe τ vs) := by
  refine ⟨by rw [wipe_length, wipeE_length]; exact e.1, fun i d h => ?_⟩
  by_cases hi : i ∈ vs
  · rw [wipeE_in σ hi] at h; cases h
  · obtain ⟨v, h1, h2⟩ := e.2 i d (by unfold Env.get at h ⊢; rw [wipeE_ne σ hi] at h; exact h)
    exact ⟨v, by rw [wipe_get, if_neg hi]; exact h1, h2⟩
def Tg.slots : Tg → List Nat
  | .nm i => [i]
  | .tp is => is
theorem foldSet_eq : ∀ (is : List Nat) (ds : List D) (σ1 σ2 : Env), is.length = ds.length → σ1.length = σ2.length → (∀ j, j ∉ is → σ1[j]? = σ2[j]?) →
    (is.zip ds).foldl (fun (s : Env) (p : Nat × D) => s.set p.1 (some p.2)) σ1 = (is.zip ds).foldl (fun (s : Env) (p : Nat × D) => s.set p.1 (some p.2)) σ2
  | [], [], σ1, σ2, _, hl, h => List.ext_getElem? fun j => h j (by simp)
  | i :: is, d :: ds, σ1, σ2, he, hl, h => by
    rw [List.zip_cons_cons, List.foldl_cons, List.foldl_cons]
    refine foldSet_eq is ds _ _ (Nat.succ.inj he) (by simp [hl]) fun j hj => ?_
    by_cases e : i = j
    · subst e
      by_cases q : i < σ1.length
      · rw [List.getElem?_set_self q, List.getElem?_set_self (by omega)]
      · rw [List.getElem?_eq_none (by simpa using q), List.getElem?_eq_none (by rw [List.length_set]; omega)]
    · rw [List.getElem?_set_ne e, List.getElem?_set_ne e]
      exact h j (by simp only [List.mem_cons, not_or]; exact ⟨fun z => e z.symm, hj⟩)
  | [], _ :: _, _, _, he, _, _ => by cases he
  | _ :: _, [], _, _, he, _, _ => by cases he
theorem tgW_wipe {t : Tg} {d : D} {σ σ' : Env} (h : tgW t d σ = some σ') : tgW t d (wipeE σ t.slots) = some σ' := by
  cases t with
  | nm i =>
    cases h
    show some _ = some _
    refine congrArg some (List.ext_getElem? fun j => ?_)
    by_cases e : i = j
    · subst e
      by_cases q : i < σ.length
      · rw [List.getElem?_set_self q, List.getElem?_set_self (by rw [wipeE_length]; exact q)]
      · rw [List.getElem?_eq_none (by rw [List.length_set, wipeE_length]; omega), List.getElem?_eq_none (by rw [List.length_set]; omega)]
    · rw [List.getElem?_set_ne e, List.getElem?_set_ne e, wipeE_ne σ (by simp [Tg.slots]; exact fun z => e z.symm)]
  | tp is =>
    unfold tgW at h ⊢
    dsimp only at h ⊢
    split at h
    · rename_i ds
      split at h
      · rename_i hl
        cases h
        rw [if_pos hl]
        exact congrArg some (foldSet_eq is ds _ _ hl.symm (wipeE_length σ _) fun j hj => wipeE_ne σ hj)
      · cases h
    · cases h
/-! ### targets that leave the other slots -/
theorem gIs_okw {Z : Nm} {Q : St → Hp → Prop} {H : Hp} : ∀ {is : List Nat} {ds : List D} {vs : List V} {σ : Env} {τ : St}, RDs Z H ds vs → ds.length = is.length → ER Z H σ τ →
    (∀ τ', ER Z H ((is.zip ds).foldl (fun s p => s.set p.1 (some p.2)) σ) τ' → (∀ ws, (∀ i ∈ is, i ∈ ws) → wipe τ' ws = wipe τ ws) → Q τ' H) → gIs is vs τ H Q
  | [], [], _, σ, τ, rs, _, er, q => by cases rs; exact ⟨rfl, q τ er fun _ _ => rfl⟩
  | i :: is, d :: ds, _, σ, τ, rs, hl, er, q => by
    cases rs with
    | cons r rs => exact ⟨_, _, rfl, gIs_okw rs (Nat.succ.inj hl) (er.set i r) fun τ' e h => q τ' e fun ws hw => (h ws fun j hj => hw j (List.mem_cons_of_mem _ hj)).trans (wipe_put (hw i List.mem_cons_self))⟩
  | [], _ :: _, _, _, _, _, hl, _, _ => by cases hl
  | _ :: _, [], _, _, _, _, hl, _, _ => by cases hl
theorem gTg_okw {X : Cx} {Z : Nm} {Q : St → Hp → Prop} {H : Hp} {t : Tg} {d : D} {v : V} {σ σ' : Env} {τ : St} (hK : Z.K = X.K) (h : tgW t d σ = some σ') (r : RD Z H d v) (er : ER Z H σ τ) (q : ∀ τ', ER Z H σ' τ' → wipe τ' t.slots = wipe τ t.slots → Q τ' H) : gTg X.K t v τ H Q := by
  cases t with
  | nm i => cases h; exact q _ (er.set i r) (wipe_put (by simp [Tg.slots]))
  | tp is =>
    unfold tgW at h
    dsimp only at h
    split at h
    · rename_i ds
      split at h
      · rename_i hl
        cases h
        cases r with
        | tup t rs => exact ⟨_, _, rfl, by rw [← hK]; exact t.sq, by rw [← rs.length]; exact hl, gIs_okw rs hl er fun τ' e hw => q τ' e (hw _ fun _ h => h)⟩
      · cases h
    · cases h
abbrev W0 : WX := fun _ _ _ _ => False
section
variable {X : Cx} {Z : Nm} {G : Gam} {k : Nat} {W : WX} {a₀ b₀ c₀ e₀ tg : Expr} {es₀ : List Expr} {wa wb wc : WE0} {ws : Env → Sto → (List D → Sto → Prop) → QX → Prop} {pos apos p : Pos}
/-- the tests of a comprehension -/
def SC (X : Cx) (Z : Nm) (ifs : List Expr) (w : Env → Sto → (Bool → Sto → Prop) → Prop) : Prop := PTs X ifs (TTx Z W0 fun σ S Q _ => w σ S Q)
theorem sc_none : SC X Z [] (fun _ S Q => Q true S) := ⟨fun pins s τ H Q I ⟨σ, S, Qa, E, er, sr, w, q, qe⟩ => (pts_nil (X := X)).run pins s τ H Q I (q true S H (TK.refl H) sr w)⟩
theorem sc_some (h : SEt X Z W0 a₀ (toT wa)) : SC X Z [a₀] (fun σ S Q => wa σ S (fun x S1 => match tru S1 x with | some r => Q r S1 | none => False) (fun _ _ => False)) :=
  ⟨fun pins s τ H Q I ⟨σ, S, Qa, E, er, sr, w, q, qe⟩ => (pts_one h).run pins s τ H Q I ⟨σ, S, Qa, fun _ _ => False, er, sr, w, q, fun _ _ _ _ _ _ _ _ z => z⟩⟩
theorem lc_ok {wi : Env → Sto → (List D → (Sto → Prop) → Sto → Prop) → QX → Prop} {wt : Env → Sto → (Bool → Sto → Prop) → Prop} {we : WE0} {t : Tg} {τ : St} {H : Hp} {Q : VK} (hK : Z.K = X.K)
    (h : TEx Z W (fun σ S Q E => wi σ S (fun ds live S1 => ∀ p, S1 p = none → goW live (fun d K S2 => match tgW t d σ with | some σ' => wt σ' S2 (fun ok S3 => if ok then we σ' S3 (fun y S4 => ∃ acc, S4 p = some (.lst acc) ∧ acc.length < sizeLine ∧ K (S4.upd p (.lst (acc ++ [y])))) (fun _ _ => False) else K S3) | none => False) ds (S1.upd p (.lst [])) (fun S5 => Q (.ref p) S5)) E) τ H Q) :
    tLc (TIx Z W wi) (gTg X.K t) (TTx Z W0 fun σ S Q _ => wt σ S Q) (TEx Z W0 we) t.slots τ H Q := by
  obtain ⟨σ, S, Qa, E, er, sr, w, q, qe⟩ := h
  refine ⟨σ, S, _, E, er, sr, w, fun ds live S0 H0 J k0 sr0 wk w0 D hD => ?_, qe⟩
  have w1 := w0 D (sr0.free hD)
  have tkD : TK H0 (upd H0 D (.lst [])) := TK.new hD
  refine ⟨fun i m H' => m = ds.length - i ∧ i ≤ ds.length ∧ TK (upd H0 D (.lst [])) H' ∧ ∃ S, SR Z S H' ∧ goW live (fun d K S2 => match tgW t d σ with | some σ' => wt σ' S2 (fun ok S3 => if ok then we σ' S3 (fun y S4 => ∃ acc, S4 D = some (.lst acc) ∧ acc.length < sizeLine ∧ K (S4.upd D (.lst (acc ++ [y])))) (fun _ _ => False) else K S3) | none => False) (ds.drop i) S (fun S5 => Qa (.ref D) S5),
    ⟨_, rfl, Nat.zero_le _, TK.refl _, _, sr0.put (c := .lst []) tkD ⟨[], upd_same, .nil⟩, w1⟩, ?_⟩
  rintro i m H1 ⟨rfl, hi, k1, S1, sr1, w1⟩
  have kk1 := tkD.trans k1
  by_cases hlt : i < ds.length
  · rw [List.drop_eq_getElem_cons hlt] at w1
    obtain ⟨lv, w1⟩ := w1
    refine .inr ⟨wk.go i S1 H1 kk1 sr1 lv hlt, fun H' => TK (upd H0 D (.lst [])) H' ∧ ∃ S, SR Z S H' ∧ goW live (fun d K S2 => match tgW t d σ with | some σ' => wt σ' S2 (fun ok S3 => if ok then we σ' S3 (fun y S4 => ∃ acc, S4 D = some (.lst acc) ∧ acc.length < sizeLine ∧ K (S4.upd D (.lst (acc ++ [y])))) (fun _ _ => False) else K S3) | none => False) (ds.drop (i + 1)) S (fun S5 => Qa (.ref D) S5),
      fun H' h => ⟨_, by omega, rfl, hlt, h.1, h.2⟩, fun x H2 y => ?_⟩
    obtain ⟨k2, sm, rx⟩ := wk.yld i S1 H1 x H2 _ kk1 sr1 lv (List.getElem?_eq_getElem hlt) y
    dsimp only at w1
    split at w1
    · rename_i σ2 e
      have er2 : ER Z H2 σ τ := er.keep ((k0.trans kk1).trans k2)
      refine gTg_okw hK (tgW_wipe e) rx (er2.wipe t.slots) fun τ2 er3 hw => ⟨hw.trans wipe_wipe, ?_⟩
      refine ⟨σ2, S1, _, _, er3, sr1.same sm, w1, fun ok S3 H3 k3 sr3 w3 => ?_, fun _ _ _ _ _ _ _ _ z => z⟩
      cases ok with
      | false => exact ⟨(k1.trans k2).trans k3, S3, sr3, w3⟩
      | true =>
        refine ⟨σ2, S3, _, _, er3.keep k3, sr3, w3, fun dy yv S4 H4 k4 sr4 ry ⟨acc, ea, hl, w4⟩ => ?_, fun _ _ _ _ _ _ _ _ z => z⟩
        obtain ⟨vs, hq, rs⟩ := lstAt sr4 ea
        have tk : TK H4 (upd H4 D (.lst (vs ++ [yv]))) := TK.mut hq True.intro
        refine ⟨vs, hq, by rw [← rs.length]; exact hl, ((((k1.trans k2).trans k3).trans k4).trans tk), _, sr4.put (c := .lst (acc ++ [dy])) tk ⟨_, upd_same, (rs.append (.cons ry .nil)).keep tk⟩, w4⟩
    · exact w1.elim
  · have e : i = ds.length := by omega
    subst e
    rw [List.drop_length] at w1
    exact .inl ⟨wk.stop S1 H1 kk1 sr1 w1.1, q (.ref D) (.ref D) S1 H1 (k0.trans kk1) sr1 .ref w1.2⟩
theorem se_lc {elt iter : Expr} {ifs : List Expr} {scope : Scope} {own : List (Str × Nat)} {wi : Env → Sto → (List D → (Sto → Prop) → Sto → Prop) → QX → Prop} {wt : Env → Sto → (Bool → Sto → Prop) → Prop} {we : WE0} {t : Tg} (hK : Z.K = X.K) (hc : X.calm = true) (hN : X.N.Nodup)
    (hi : SI X Z W tg iter wi) (ok : BlkOk X.N X.env.scope scope own) (ho : own.map (·.2) = t.slots)
    (hg : ∀ (s : Shared) (H : Hp) (C : Addr) (cl : List (Str × Addr)) (fp : List Addr), PG (X.blk s H scope (compEnvC scope cl C X.env) fp) tg (gTg X.K t)) (ht : ∀ (s : Shared) (H : Hp) (C : Addr) (cl : List (Str × Addr)) (fp : List Addr), SC (X.blk s H scope (compEnvC scope cl C X.env) fp) Z ifs wt)
    (he : ∀ (s : Shared) (H : Hp) (C : Addr) (cl : List (Str × Addr)) (fp : List Addr), SE (X.blk s H scope (compEnvC scope cl C X.env) fp) Z W0 elt we) (hs : ∀ x, foldedSetIterable iter X.env x = pure x) :
    SE X Z W (.ListComp elt [⟨tg, iter, ifs, 0⟩] scope pos) (fun σ S Q E => wi σ S (fun ds live S1 => ∀ p, S1 p = none → goW live (fun d K S2 => match tgW t d σ with | some σ' => wt σ' S2 (fun ok S3 => if ok then we σ' S3 (fun y S4 => ∃ acc, S4 p = some (.lst acc) ∧ acc.length < sizeLine ∧ K (S4.upd p (.lst (acc ++ [y])))) (fun _ _ => False) else K S3) | none => False) ds (S1.upd p (.lst [])) (fun S5 => Q (.ref p) S5)) E) :=
  PE.imp (pe_lc hc hN hi ok hg ht he hs) fun τ H Q h => by rw [ho]; exact lc_ok hK h
theorem ss_setLc {i : Nat} {y : Str} {elt iter : Expr} {ifs : List Expr} {scope : Scope} {own : List (Str × Nat)} {wi : Env → Sto → (List D → (Sto → Prop) → Sto → Prop) → QX → Prop} {wt : Env → Sto → (Bool → Sto → Prop) → Prop} {we : WE0} {t : Tg} (hK : Z.K = X.K) (hc : X.calm = true) (hN : X.N.Nodup)
    (hy : X.N[i]? = some y) (hyl : X.env.scope.names.lookup y = some .local) (hsw : swapsWith (.ListComp elt [⟨tg, iter, ifs, 0⟩] scope pos) (some (.Name y p)) apos.line X.env = pure true)
    (hi : SI X Z W tg iter wi) (ok : BlkOk X.N X.env.scope scope own) (ho : own.map (·.2) = t.slots)
    (hg : ∀ (s : Shared) (H : Hp) (C : Addr) (cl : List (Str × Addr)) (fp : List Addr), PG (X.blk s H scope (compEnvC scope cl C X.env) fp) tg (gTg X.K t)) (ht : ∀ (s : Shared) (H : Hp) (C : Addr) (cl : List (Str × Addr)) (fp : List Addr), SC (X.blk s H scope (compEnvC scope cl C X.env) fp) Z ifs wt)
    (he : ∀ (s : Shared) (H : Hp) (C : Addr) (cl : List (Str × Addr)) (fp : List Addr), SE (X.blk s H scope (compEnvC scope cl C X.env) fp) Z W0 elt we) (hs : ∀ x, foldedSetIterable iter X.env x = pure x) :
    SS X Z W (.Assign [.Name y p] (.ListComp elt [⟨tg, iter, ifs, 0⟩] scope pos) apos) (fun K Xf σ S => (fun σ S Q E => wi σ S (fun ds live S1 => ∀ p, S1 p = none → goW live (fun d K S2 => match tgW t d σ with | some σ' => wt σ' S2 (fun ok S3 => if ok then we σ' S3 (fun y S4 => ∃ acc, S4 p = some (.lst acc) ∧ acc.length < sizeLine ∧ K (S4.upd p (.lst (acc ++ [y])))) (fun _ _ => False) else K S3) | none => False) ds (S1.upd p (.lst [])) (fun S5 => Q (.ref p) S5)) E) σ S (fun d S1 => K.nx (σ.set i (some d)) S1) (fun x S1 => Xf x σ S1)) :=
  PS.imp (ps_setLc hc hN hy hyl hsw hi ok hg ht he hs) fun D τ H ⟨σ, S, K, Xf, er, sr, w, kd, kx⟩ => by
    rw [ho]
    refine lc_ok hK ⟨σ, S, fun d S1 => K.nx (σ.set i (some d)) S1, _, er, sr, w, fun d v S1 H1 k1 sr1 r w1 => ?_, kx.kx er⟩
    exact kd.nx _ S1 _ H1 k1 ((er.keep k1).set i r) sr1 w1
/-! ### enumerate, zip -/
theorem wlk_enum {H : Hp} {S : Sto} {a : Addr} {ds : List D} (hK : Z.K = X.K) (e : rd S a = some ds) : Wlk Z H (Ite X.K a) (enumD ds) (liveL a ds) where
  go := fun i S H k sr l hi => by
    obtain ⟨vs, sq, rs⟩ := rdAt (K := X.K) sr l
    have hl := rs.length
    have hi' : i < vs.length := by unfold enumD at hi; simp at hi; omega
    exact ⟨vs, vs[i]'hi', sq, by simp⟩
  stop := fun S H k sr l => by
    obtain ⟨vs, sq, rs⟩ := rdAt (K := X.K) sr l
    exact ⟨vs, sq, by rw [← rs.length]; unfold enumD; simp⟩
  yld := fun i S H x H' d k sr l hd y => by
    obtain ⟨T, x0, rfl, hT, rfl, y⟩ := y
    obtain ⟨vs, sq, rs⟩ := rdAt (K := X.K) sr l
    have hi : i < ds.length := by
      have := (List.getElem?_eq_some_iff.mp hd).1
      unfold enumD at this; simp at this; omega
    have hd' : d = .tup [.int i, ds[i]] := by
      unfold enumD at hd
      rw [List.getElem?_map, List.getElem?_zip_eq_some (z := (i, ds[i])) |>.mpr ⟨by simp [hi], by simp⟩] at hd
      exact (Option.some.inj hd).symm
    subst hd'
    obtain ⟨v, h1, h2⟩ := rs.get (List.getElem?_eq_getElem hi)
    rw [y vs sq] at h1
    cases h1
    exact ⟨TK.new hT, new_same hT, .tup (.inl upd_same) (.cons .int (.cons (h2.keep (TK.new hT)) .nil))⟩
theorem si_enum {elts : List Expr} {kk : Nat} {tp : Pos} (hK : Z.K = X.K) (hg : Gl X "enumerate") (hm : X.mg "enumerate" = none) (ha : SE X Z W a₀ wa) (hs : starEach [a₀] X.env = [(false, eval a₀ X.env)]) (hs2 : starEach [a₀] X.env = (false, eval a₀ X.env) :: starEach [] X.env) :
    SI X Z W (.Tuple elts kk tp) (.Call (.Name "enumerate" p) [a₀] [] pos) (fun σ S R E => wa σ S (fun x S1 => lsW x S1 (fun ds l => R (enumD ds) l S1)) E) :=
  PI.imp (pi_enum hg hm (pa_cons ha pa_nil hs2) hs) fun τ H R ⟨σ, S, Ra, E, er, sr, w, r, qe⟩ => by
    refine ⟨σ, S, _, E, er, sr, w, fun d v S1 H1 k1 sr1 rd1 w1 => ?_, qe⟩
    unfold lsW at w1
    dsimp only at w1
    split at w1
    · rename_i a
      cases rd1
      obtain ⟨ds, e, w1⟩ := w1
      obtain ⟨vs, sq, rs⟩ := rdAt (K := X.K) sr1 e
      exact ⟨a, vs, rfl, sq, r _ _ _ _ _ k1 sr1 (wlk_enum hK e) w1⟩
    · exact w1.elim
theorem wlk_zip {H : Hp} {a b : Addr} {ds es : List D} (hK : Z.K = X.K) : Wlk Z H (Itz X.K a b) (zipD ds es) (fun S' => liveL a ds S' ∧ liveL b es S') where
  go := fun i S H k sr l hi => by
    obtain ⟨vs, sq, rs⟩ := rdAt (K := X.K) sr l.1
    obtain ⟨us, sq2, rs2⟩ := rdAt (K := X.K) sr l.2
    have hl := rs.length
    have hl2 := rs2.length
    have hi' : i < vs.length ∧ i < us.length := by unfold zipD at hi; simp at hi; omega
    exact ⟨vs, us, vs[i]'hi'.1, us[i]'hi'.2, sq, sq2, by simp, by simp⟩
  stop := fun S H k sr l => by
    obtain ⟨vs, sq, rs⟩ := rdAt (K := X.K) sr l.1
    obtain ⟨us, sq2, rs2⟩ := rdAt (K := X.K) sr l.2
    have hl := rs.length
    have hl2 := rs2.length
    exact ⟨vs, us, sq, sq2, by unfold zipD; simp; omega⟩
  yld := fun i S H x H' d k sr l hd y => by
    obtain ⟨T, x0, y0, rfl, hT, rfl, yx, yy⟩ := y
    obtain ⟨vs, sq, rs⟩ := rdAt (K := X.K) sr l.1
    obtain ⟨us, sq2, rs2⟩ := rdAt (K := X.K) sr l.2
    unfold zipD at hd
    rw [List.getElem?_map] at hd
    cases e : (ds.zip es)[i]? with
    | none => rw [e] at hd; cases hd
    | some pr =>
      rw [e] at hd
      cases hd
      obtain ⟨e1, e2⟩ := List.getElem?_zip_eq_some.mp e
      obtain ⟨v, h1, h2⟩ := rs.get e1
      obtain ⟨u, h3, h4⟩ := rs2.get e2
      rw [yx vs sq] at h1
      rw [yy us sq2] at h3
      cases h1; cases h3
      exact ⟨TK.new hT, new_same hT, .tup (.inl upd_same) (.cons (h2.keep (TK.new hT)) (.cons (h4.keep (TK.new hT)) .nil))⟩
theorem si_zip {elts : List Expr} {kk : Nat} {tp : Pos} (hK : Z.K = X.K) (hg : Gl X "zip") (hm : X.mg "zip" = none) (ha : SE X Z W a₀ wa) (hb : SE X Z W b₀ wb) (hs : starEach [a₀, b₀] X.env = (false, eval a₀ X.env) :: starEach [b₀] X.env) (hs2 : starEach [b₀] X.env = (false, eval b₀ X.env) :: starEach [] X.env)
    (hpl : (backTo pos (starEach [b₀] X.env)).any (·.1) = false) :
    SI X Z W (.Tuple elts kk tp) (.Call (.Name "zip" p) [a₀, b₀] [] pos) (fun σ S R E => wa σ S (fun x S1 => wb σ S1 (fun y S2 => lsW x S2 (fun ds l => lsW y S2 (fun es l2 => R (zipD ds es) (fun S' => l S' ∧ l2 S') S2))) E) E) :=
  PI.imp (pi_zip hg hm (pa_cons ha (pa_cons hb pa_nil hs2) hs) hs hpl) fun τ H R ⟨σ, S, Ra, E, er, sr, w, r, qe⟩ => by
    refine two_ok (R := fun x y H2 => ∃ (a b : Addr) (xs ys : List V), ([x, y] : List V) = [.ref a, .ref b] ∧ SqL X.K H2 a xs ∧ SqL X.K H2 b ys ∧ R (Itz X.K a b) H2) er sr w qe fun {S2 H2 x y v u} k sr' rx ry h => ?_
    unfold lsW at h
    split at h
    · rename_i a
      obtain ⟨ds, e1, h⟩ := h
      split at h
      · rename_i b
        obtain ⟨es, e2, h⟩ := h
        cases rx; cases ry
        obtain ⟨vs, sq, rs⟩ := rdAt (K := X.K) sr' e1
        obtain ⟨us, sq2, rs2⟩ := rdAt (K := X.K) sr' e2
        exact ⟨a, b, vs, us, rfl, sq, sq2, r _ _ _ _ _ k sr' (wlk_zip hK) h⟩
      · exact h.elim
    · exact h.elim
/-! ### dict displays, dict comprehensions -/
/-- the pairs of a display -/
def SPs (X : Cx) (Z : Nm) (W : WX) (pos : Pos) (keys : List (Option Expr)) (vals : List Expr) (w : Env → Sto → (List (Ky × D) → Sto → Prop) → QX → Prop) : Prop :=
  ∀ (pins : List (Addr × Obj)) (s : Shared) (τ : St) (H : Hp) (Q : List (Key × V) → Hp → Prop), Inv X pins τ H s → (∃ σ S Qa E, ER Z H σ τ ∧ SR Z S H ∧ w σ S Qa E ∧ (∀ kvs gs S' H', TK H H' → SR Z S' H' → RK Z H' kvs gs → Qa kvs S' → Q gs H') ∧ Kx Z W τ H E) →
    wpAny (model X.prog X.w) X.A (evalPairs (pairTrees keys vals X.env pos)) (fun vs s' => ∃ gs H', Inv X pins τ H' s' ∧ VV (gs.map fun (kv : Key × V) => (kV kv.1, kv.2)) vs ∧ Q gs H') X.xe s
theorem sp_nil : SPs X Z W pos [] [] (fun _ S Q _ => Q [] S) := fun pins s τ H Q I ⟨σ, S, Qa, E, er, sr, w, q, qe⟩ => pairTrees_nil_walk ⟨[], H, I, .nil, q [] [] S H (TK.refl H) sr .nil w⟩
theorem kyOf_rd {H : Hp} {d : D} {v : V} {ky : Ky} (r : RD Z H d v) (h : kyOf d = some ky) : v = kV (kyS ky) := by
  cases d <;> simp only [kyOf] at h <;> first | (cases h; cases r; rfl) | cases h
theorem sp_cons {ks : List (Option Expr)} {vs : List Expr} {wr : Env → Sto → (List (Ky × D) → Sto → Prop) → QX → Prop} (hk : SE X Z W a₀ wa) (hv : SE X Z W b₀ wb) (hr : SPs X Z W pos ks vs wr) :
    SPs X Z W pos (some a₀ :: ks) (b₀ :: vs) (fun σ S Q E => wa σ S (fun x S1 => wb σ S1 (fun y S2 => wr σ S2 (fun kvs S3 => ∃ ky, kyOf x = some ky ∧ Q ((ky, y) :: kvs) S3) E) E) E) := fun pins s τ H Q I ⟨σ, S, Qa, E, er, sr, w, q, qe⟩ => by
  refine pairTrees_cons_walk (thn (hk.run pins s τ H (fun v H1 => TK H H1 ∧ ∃ d S1, SR Z S1 H1 ∧ RD Z H1 d v ∧ wb σ S1 (fun y S2 => wr σ S2 (fun kvs S3 => ∃ ky, kyOf d = some ky ∧ Qa ((ky, y) :: kvs) S3) E) E) I
    ⟨σ, S, _, E, er, sr, w, fun d v S1 H1 k1 sr1 rd1 w1 => ⟨k1, d, S1, sr1, rd1, w1⟩, qe⟩) fun u s1 ⟨x, H1, I1, rx, k1, d, S1, sr1, rd1, w1⟩ => ?_)
  refine thn (hv.run pins s1 τ H1 (fun v H2 => TK H1 H2 ∧ ∃ e S2, SR Z S2 H2 ∧ RD Z H2 e v ∧ wr σ S2 (fun kvs S3 => ∃ ky, kyOf d = some ky ∧ Qa ((ky, e) :: kvs) S3) E) I1
    ⟨σ, S1, _, E, er.keep k1, sr1, w1, fun e v S2 H2 k2 sr2 rd2 w2 => ⟨k2, e, S2, sr2, rd2, w2⟩, qe.keep k1⟩) fun u2 s2 ⟨y, H2, I2, ry, k2, e, S2, sr2, rd2, w2⟩ => ?_
  refine thn (hr pins s2 τ H2 (fun gs H3 => TK H2 H3 ∧ ∃ kvs S3, SR Z S3 H3 ∧ RK Z H3 kvs gs ∧ ∃ ky, kyOf d = some ky ∧ Qa ((ky, e) :: kvs) S3) I2
    ⟨σ, S2, _, E, (er.keep k1).keep k2, sr2, w2, fun kvs gs S3 H3 k3 sr3 rk w3 => ⟨k3, kvs, S3, sr3, rk, w3⟩, (qe.keep k1).keep k2⟩) fun ws s3 ⟨gs, H3, I3, rel, k3, kvs, S3, sr3, rk, ky, hky, w3⟩ => ?_
  have ex := kyOf_rd rd1 hky
  subst ex
  exact ⟨(kyS ky, y) :: gs, H3, I3, .cons ⟨rx, ry⟩ rel, q _ _ S3 H3 ((k1.trans k2).trans k3) sr3 (.cons (rd2.keep k3) rk) w3⟩
theorem RK.merge {H : Hp} : ∀ (more : List (Ky × D)) (kvs : List (Ky × D)) (gs hs : List (Key × V)), RK Z H more gs → RK Z H kvs hs → RK Z H (dmerge kvs more) (mergeK hs gs)
  | [], kvs, gs, hs, q, r => by cases q; exact r
  | (k, d) :: more, kvs, gs, hs, q, r => by
    cases q with
    | cons q0 t =>
      have z := RK.merge more (dput kvs k d) _ _ t (r.put q0 k)
      exact z
theorem se_dct {keys : List (Option Expr)} {vals : List Expr} {ws : Env → Sto → (List (Ky × D) → Sto → Prop) → QX → Prop} (h : SPs X Z W pos keys vals ws) (hall : keys.all (·.isSome) = true) (hl : keys.length = vals.length) (h0 : keys ≠ []) (h15 : keys.length ≤ 15) :
    SE X Z W (.Dict keys vals pos) (fun σ S Q E => ∀ p, S p = none → ws σ (S.upd p (.dct [])) (fun kvs S1 => S1 p = some (.dct []) ∧ kvs.length ≤ 15 ∧ Q (.ref p) (S1.upd p (.dct (dmerge [] kvs)))) E) := by
  refine ⟨fun pins s τ H Q I ⟨σ, S, Qa, E, er, sr, w, q, qe⟩ => ?_⟩
  have hn := I.hok.fresh (Nat.le_refl s.heap.objs.size)
  have I1 := I.laid (a := s.heap.objs.size) (o := .dK []) (h' := s.heap.push { cls := .type "dict", data := .dict #[] }) (t' := s.toks) (fun _ _ q => Heap.get?_push_of_some _ q) (Nat.le_refl _) (dk_empty s.heap I.big)
  have tk0 : TK H (upd H s.heap.objs.size (.dK [])) := TK.new hn
  have sr1 : SR Z (S.upd s.heap.objs.size (.dct [])) (upd H s.heap.objs.size (.dK [])) := sr.put (c := .dct []) tk0 ⟨[], upd_same, .nil⟩
  refine wpAny_Dict_walk (knd := mixKind X.prog X.w) hall hl h0 h15 (thn (h pins _ τ _ (fun gs H2 => TK H H2 ∧ ∃ kvs S2, SR Z S2 H2 ∧ RK Z H2 kvs gs ∧ S2 s.heap.objs.size = some (.dct []) ∧ kvs.length ≤ 15 ∧ Qa (.ref s.heap.objs.size) (S2.upd s.heap.objs.size (.dct (dmerge [] kvs)))) I1
    ⟨σ, _, _, E, er.keep tk0, sr1, w _ (sr.free hn), fun kvs gs S2 H2 k2 sr2 rk w2 => ⟨tk0.trans k2, kvs, S2, sr2, rk, w2⟩, qe.keep tk0⟩) fun ws s2 ⟨gs, H2, I2, rel, k2, kvs, S2, sr2, rk, ed, hz15, w2⟩ => ?_)
  obtain ⟨gs0, e, r00⟩ := sr2 _ _ ed
  cases r00
  obtain ⟨rs, c, rkv⟩ := carries_of (P := X.prog) (w := X.w) rel
  obtain ⟨z, hd, vs0, r0, dd⟩ := dk_of I2.hok e
  cases r0
  have lk : gs.length ≤ 15 := by rw [← rk.length]; exact hz15
  have tk2 : TK H2 (upd H2 s.heap.objs.size (.dK (mergeK [] gs))) := TK.mut e True.intro
  refine ⟨rs, c, dd, fun h' dd' hs => ⟨.ref s.heap.objs.size, _, ?_, rfl, q _ _ _ _ (k2.trans tk2) (sr2.put (c := .dct (dmerge [] kvs)) tk2 ⟨_, upd_same, (RK.merge _ _ _ _ rk .nil).keep tk2⟩) .ref w2⟩⟩
  have hz : (mergeK [] gs).length ≤ sizeLine := by
    have h1 := length_mergeK gs []
    rw [List.length_nil] at h1
    rw [sizeLine_eq]; omega
  have he : ∃ q, h'.get? s.heap.objs.size = some q := let ⟨q, _, _, hq, _⟩ := dd'; ⟨q, hq⟩
  exact d_write I2 (by rw [e]; exact True.intro) hs he (dk_new hz hd (rkv.merge .nil) dd')
theorem se_dct0 : SE X Z W (.Dict [] [] pos) (fun _ S Q _ => ∀ p, S p = none → (S.upd p (.dct [])) p = some (.dct []) ∧ ([] : List (Ky × D)).length ≤ 15 ∧ Q (.ref p) ((S.upd p (.dct [])).upd p (.dct (dmerge [] [])))) :=
  PE.imp pe_dnewK fun τ H Q ⟨σ, S, Qa, E, er, sr, w, q, qe⟩ => q.newK sr .nil fun p hp => by
    have := (w p hp).2.2
    have e : (S.upd p (.dct [])).upd p (.dct (dmerge [] [])) = S.upd p (.dct []) := by
      funext b
      unfold Sto.upd
      split <;> rfl
    rw [e] at this
    exact this
/-- d = {k: v for ..} -/
theorem dc_ok {wi : Env → Sto → (List D → (Sto → Prop) → Sto → Prop) → QX → Prop} {wt : Env → Sto → (Bool → Sto → Prop) → Prop} {wk we : WE0} {t : Tg} {τ : St} {H : Hp} {Q : VK} (hK : Z.K = X.K)
    (h : TEx Z W (fun σ S Q E => wi σ S (fun ds live S1 => ∀ p, S1 p = none → goW live (fun d K S2 => match tgW t d σ with | some σ' => wt σ' S2 (fun ok S3 => if ok then wk σ' S3 (fun y S4 => we σ' S4 (fun z S5 => ∃ kvs ky, kyOf y = some ky ∧ S5 p = some (.dct kvs) ∧ kvs.length < sizeLine ∧ K (S5.upd p (.dct (dput kvs ky z)))) (fun _ _ => False)) (fun _ _ => False) else K S3) | none => False) ds (S1.upd p (.dct [])) (fun S5 => Q (.ref p) S5)) E) τ H Q) :
    tDc (TIx Z W wi) (gTg X.K t) (TTx Z W0 fun σ S Q _ => wt σ S Q) (TEx Z W0 wk) (TEx Z W0 we) t.slots τ H Q := by
  obtain ⟨σ, S, Qa, E, er, sr, w, q, qe⟩ := h
  refine ⟨σ, S, _, E, er, sr, w, fun ds live S0 H0 J k0 sr0 wlk w0 D hD => ?_, qe⟩
  have w1 := w0 D (sr0.free hD)
  have tkD : TK H0 (upd H0 D (.dK [])) := TK.new hD
  refine ⟨fun i m H' => m = ds.length - i ∧ i ≤ ds.length ∧ TK (upd H0 D (.dK [])) H' ∧ ∃ S, SR Z S H' ∧ goW live (fun d K S2 => match tgW t d σ with | some σ' => wt σ' S2 (fun ok S3 => if ok then wk σ' S3 (fun y S4 => we σ' S4 (fun z S5 => ∃ kvs ky, kyOf y = some ky ∧ S5 D = some (.dct kvs) ∧ kvs.length < sizeLine ∧ K (S5.upd D (.dct (dput kvs ky z)))) (fun _ _ => False)) (fun _ _ => False) else K S3) | none => False) (ds.drop i) S (fun S5 => Qa (.ref D) S5),
    ⟨_, rfl, Nat.zero_le _, TK.refl _, _, sr0.put (c := .dct []) tkD ⟨[], upd_same, .nil⟩, w1⟩, ?_⟩
  rintro i m H1 ⟨rfl, hi, k1, S1, sr1, w1⟩
  have kk1 := tkD.trans k1
  by_cases hlt : i < ds.length
  · rw [List.drop_eq_getElem_cons hlt] at w1
    obtain ⟨lv, w1⟩ := w1
    refine .inr ⟨wlk.go i S1 H1 kk1 sr1 lv hlt, fun H' => TK (upd H0 D (.dK [])) H' ∧ ∃ S, SR Z S H' ∧ goW live (fun d K S2 => match tgW t d σ with | some σ' => wt σ' S2 (fun ok S3 => if ok then wk σ' S3 (fun y S4 => we σ' S4 (fun z S5 => ∃ kvs ky, kyOf y = some ky ∧ S5 D = some (.dct kvs) ∧ kvs.length < sizeLine ∧ K (S5.upd D (.dct (dput kvs ky z)))) (fun _ _ => False)) (fun _ _ => False) else K S3) | none => False) (ds.drop (i + 1)) S (fun S5 => Qa (.ref D) S5),
      fun H' h => ⟨_, by omega, rfl, hlt, h.1, h.2⟩, fun x H2 y => ?_⟩
    obtain ⟨k2, sm, rx⟩ := wlk.yld i S1 H1 x H2 _ kk1 sr1 lv (List.getElem?_eq_getElem hlt) y
    dsimp only at w1
    split at w1
    · rename_i σ2 e
      have er2 : ER Z H2 σ τ := er.keep ((k0.trans kk1).trans k2)
      refine gTg_okw hK (tgW_wipe e) rx (er2.wipe t.slots) fun τ2 er3 hw => ⟨hw.trans wipe_wipe, ?_⟩
      refine ⟨σ2, S1, _, _, er3, sr1.same sm, w1, fun ok S3 H3 k3 sr3 w3 => ?_, fun _ _ _ _ _ _ _ _ z => z⟩
      cases ok with
      | false => exact ⟨(k1.trans k2).trans k3, S3, sr3, w3⟩
      | true =>
        refine ⟨σ2, S3, _, _, er3.keep k3, sr3, w3, fun dy yv S4 H4 k4 sr4 ry w4 => ?_, fun _ _ _ _ _ _ _ _ z => z⟩
        refine ⟨σ2, S4, _, _, (er3.keep k3).keep k4, sr4, w4, fun dz zv S5 H5 k5 sr5 rz ⟨kvs, ky, eky, ea, hl, w5⟩ => ?_, fun _ _ _ _ _ _ _ _ z => z⟩
        obtain ⟨gs, hq, rs⟩ := sr5 _ _ ea
        have tk : TK H5 (upd H5 D (.dK (putK gs (kyS ky) zv))) := TK.mut hq True.intro
        refine ⟨gs, kyS ky, kyOf_rd ry eky, hq, by rw [← rs.length]; exact hl, (((((k1.trans k2).trans k3).trans k4).trans k5).trans tk), _, sr5.put (c := .dct (dput kvs ky dz)) tk ⟨_, upd_same, (rs.put rz ky).keep tk⟩, w5⟩
    · exact w1.elim
  · have e : i = ds.length := by omega
    subst e
    rw [List.drop_length] at w1
    exact .inl ⟨wlk.stop S1 H1 kk1 sr1 w1.1, q (.ref D) (.ref D) S1 H1 (k0.trans kk1) sr1 .ref w1.2⟩
theorem se_dc {kx vx iter : Expr} {ifs : List Expr} {scope : Scope} {own : List (Str × Nat)} {wi : Env → Sto → (List D → (Sto → Prop) → Sto → Prop) → QX → Prop} {wt : Env → Sto → (Bool → Sto → Prop) → Prop} {wk we : WE0} {t : Tg} (hK : Z.K = X.K) (hc : X.calm = true) (hN : X.N.Nodup)
    (hi : SI X Z W tg iter wi) (ok : BlkOk X.N X.env.scope scope own) (ho : own.map (·.2) = t.slots)
    (hg : ∀ (s : Shared) (H : Hp) (C : Addr) (cl : List (Str × Addr)) (fp : List Addr), PG (X.blk s H scope (compEnvC scope cl C X.env) fp) tg (gTg X.K t)) (ht : ∀ (s : Shared) (H : Hp) (C : Addr) (cl : List (Str × Addr)) (fp : List Addr), SC (X.blk s H scope (compEnvC scope cl C X.env) fp) Z ifs wt)
    (hk : ∀ (s : Shared) (H : Hp) (C : Addr) (cl : List (Str × Addr)) (fp : List Addr), SE (X.blk s H scope (compEnvC scope cl C X.env) fp) Z W0 kx wk)
    (he : ∀ (s : Shared) (H : Hp) (C : Addr) (cl : List (Str × Addr)) (fp : List Addr), SE (X.blk s H scope (compEnvC scope cl C X.env) fp) Z W0 vx we) (hs : ∀ x, foldedSetIterable iter X.env x = pure x) :
    SE X Z W (.DictComp kx vx [⟨tg, iter, ifs, 0⟩] scope pos) (fun σ S Q E => wi σ S (fun ds live S1 => ∀ p, S1 p = none → goW live (fun d K S2 => match tgW t d σ with | some σ' => wt σ' S2 (fun ok S3 => if ok then wk σ' S3 (fun y S4 => we σ' S4 (fun z S5 => ∃ kvs ky, kyOf y = some ky ∧ S5 p = some (.dct kvs) ∧ kvs.length < sizeLine ∧ K (S5.upd p (.dct (dput kvs ky z)))) (fun _ _ => False)) (fun _ _ => False) else K S3) | none => False) ds (S1.upd p (.dct [])) (fun S5 => Q (.ref p) S5)) E) :=
  PE.imp (pe_dc hc hN hi ok hg ht hk he hs) fun τ H Q h => by rw [ho]; exact dc_ok hK h
end
end Mini
end L2
/-! Mini, part N: the rules, over the small language -/
namespace L2
namespace Mini
open PySem PySem.Spec PyProof.Rows
/-- a written dict with text keys -/
inductive KEs (Z : Nm) : List DictEntry → List (List Nat × D) → Prop
  | nil : KEs Z [] []
  | cons {e : DictEntry} {x : Str} {t : Tok} {l : List Nat} {v : V} {d : D} {es : List DictEntry} {kvs : List (List Nat × D)} : e.key = .str x t → x = st l → RelV v e.val → (∀ H, RD Z H d v) → KEs Z es kvs → KEs Z (e :: es) ((l, d) :: kvs)
theorem KEs.find {Z : Nm} {es : List DictEntry} {kvs : List (List Nat × D)} (h : KEs Z es kvs) (l : List Nat) :
    (∃ e d v, es.find? (fun e => e.key.isStr (st l)) = some e ∧ kvs.lookup l = some d ∧ RelV v e.val ∧ ∀ H, RD Z H d v) ∨ (es.find? (fun e => e.key.isStr (st l)) = none ∧ kvs.lookup l = none ∧ es.any (·.refKey) = false) := by
  induction h with
  | nil => exact .inr ⟨rfl, rfl, rfl⟩
  | @cons e x t k v d es kvs ek ex r rd _ ih =>
    have e1 : e.key.isStr (st l) = decide (l = k) := by
      rw [ek, ex]
      show (st k == st l) = _
      by_cases c : l = k
      · subst c; simp
      · rw [decide_eq_false c]
        exact beq_eq_false_iff_ne.mpr fun h => c (st_inj h).symm
    rw [List.find?_cons, e1, List.lookup_cons]
    by_cases c : l = k
    · subst c
      simp only [decide_true, beq_self_eq_true]
      exact .inl ⟨e, d, v, rfl, rfl, r, rd⟩
    · rw [decide_eq_false c, beq_eq_false_iff_ne.mpr c]
      rcases ih with ⟨e', d', v', h1, h2, h3, h4⟩ | ⟨h1, h2, h3⟩
      · exact .inl ⟨e', d', v', h1, h2, h3, h4⟩
      · refine .inr ⟨h1, h2, ?_⟩
        rw [List.any_cons, h3, Bool.or_false]
        unfold DictEntry.refKey
        rw [ek]
structure Kdw (K : PySem.W.Frag) (Z : Nm) (P : Params) (d : Addr) (es : Array DictEntry) (n : Nat) (kvs : List (List Nat × D)) : Prop where
  at_ : K.lookup d = some ⟨.type "dict", none, .dict es n, #[]⟩
  lit : PySem.W.KeysLit P es.toList
  low : (d == sysModules) = false
  ks : KEs Z es.toList kvs
theorem Kdw.look {K : PySem.W.Frag} {Z : Nm} {P : Params} {d : Addr} {es : Array DictEntry} {n : Nat} {kvs : List (List Nat × D)} (h : Kdw K Z P d es n kvs) (l : List Nat) :
    (∃ u t v, PySem.W.nsIn K d (st l) = some (some u) ∧ kvs.lookup l = some t ∧ RelV v u ∧ ∀ H, RD Z H t v) ∨ (PySem.W.nsIn K d (st l) = some none ∧ kvs.lookup l = none) := by
  unfold PySem.W.nsIn
  rw [h.at_]
  dsimp only
  rcases h.ks.find l with ⟨e, t, v, h1, h2, h3, h4⟩ | ⟨h1, h2, h3⟩
  · rw [h1]
    exact .inl ⟨e.val, t, v, rfl, h2, h3, h4⟩
  · rw [h1]
    refine .inr ⟨?_, h2⟩
    dsimp only
    rw [h3]
    rfl
/-- names of the top: functions, classes; names it leaves to the built-ins -/
structure Tab (K : PySem.W.Frag) (mg : Str → Option Value) (Z : Nm) (G : Gam) : Prop where
  nf : G.nfn = Z.nfn
  xf : G.xfl = Z.xfl
  fn : ∀ i, i < Z.nfn → mg (Z.fnn i) = some (.ref (Z.fa i)) ∧ PySem.W.keepIn K (.ref (Z.fa i)) = true
  cl : ∀ c, c < Z.nx → mg (Z.cln c) = some (.ref (Z.cla c)) ∧ PySem.W.keepIn K (.ref (Z.cla c)) = true
  no : ∀ x, x ∈ Z.nob → mg x = none
  con : ∀ j x d, Z.con j = some (x, d) → ∃ v u, mg x = some u ∧ RelV v u ∧ ∀ H, RD Z H d v
  kdc : ∀ j x kvs, Z.kdc j = some (x, kvs) → ∃ P d es n, Z.par = some P ∧ mg x = some (.ref d) ∧ Kdw K Z P d es n kvs
  no0 : ∀ c, Z.ni c = true → c < Z.nc ∧ PySem.W.makesIn K (Z.cla c) = true ∧ PySem.W.findIn K (.ref (Z.cla c)) "__init__" = some (some (.builtin "object.__init__"))
theorem ltb {i n : Nat} (h : Nat.blt i n = true) : i < n := Nat.le_of_ble_eq_true h
theorem inb {x : Str} {l : List Str} (h : l.contains x = true) : x ∈ l := by simpa using h
structure Mx (X : Cx) (Z : Nm) (G : Gam) (k : Nat) (W : WX) (t : Bool) : Prop where
  F : FX X Z G k
  T : Tab X.K X.mg Z G
  tk : Takes X W
  calm : X.calm = true
  nd : X.N.Nodup
  hp : PassesOwn (model X.prog X.w) X.A X.env X.xe
  ind : t = false → ∀ c d τ τ' H, W c d τ H → W c d τ' H
section
variable {X : Cx} {Z : Nm} {G : Gam} {k : Nat} {W : WX} {t : Bool} {a₀ b₀ c₀ e₀ tg : Expr} {es₀ : List Expr} {ia ib ic ie : Ex} {is : Exs} {pos apos p : Pos}
def ME (X : Cx) (Z : Nm) (G : Gam) (W : WX) (e : Expr) (i : Ex) : Prop := SE X Z W e (wpE G i)
def MT (X : Cx) (Z : Nm) (G : Gam) (W : WX) (e : Expr) (i : Ex) : Prop := SEt X Z W e (toT (wpE G i))
def MW (X : Cx) (Z : Nm) (G : Gam) (W : WX) (e : Expr) (i : Ex) : Prop := SWt X Z W e (toT (wpE G i))
def MA (X : Cx) (Z : Nm) (G : Gam) (W : WX) (es : List Expr) (is : Exs) : Prop := SAs X Z W es (wpEs G is)
def MO (X : Cx) (Z : Nm) (G : Gam) (W : WX) (e : Option Expr) (i : Exo) : Prop := SO X Z W e (wpO G i)
def MC (X : Cx) (Z : Nm) (G : Gam) (es : List Expr) (i : Exo) : Prop := SC X Z es (wpC G i)
def MI (X : Cx) (Z : Nm) (G : Gam) (W : WX) (tg e : Expr) (i : Itr) : Prop := SI X Z W tg e (wpI G i)
def MS (X : Cx) (Z : Nm) (G : Gam) (W : WX) (s : Stmt) (i : Stm) : Prop := SS X Z W s (wpS G i)
def MB (X : Cx) (Z : Nm) (G : Gam) (W : WX) (s : List Stmt) (i : Stms) : Prop := SSs X Z W s (wpSs G i)
/-! ### expressions -/
theorem me_var (M : Mx X Z G k W t) (i : Nat) {x : Str} (hN : X.N[i]? = some x := by rfl) (hv : Vis X.env.scope x := by first | exact Or.inl rfl | exact Or.inr (Or.inl rfl) | exact Or.inr (Or.inr rfl)) (hd : (x == ("__debug__" : Str)) = false := by decide +kernel)
    (hcd : (x == ("__classdict__" : Str)) = false := by decide +kernel) : ME X Z G W (.Name x p) (.var i) := se_var hN hv hd hcd
theorem me_int (M : Mx X Z G k W t) {n : Int} {j : Nat} : ME X Z G W (.Constant (.int n) j p) (.lit (.int n)) := se_con pe_int fun _ => .int
theorem me_bl (M : Mx X Z G k W t) {b : Bool} {j : Nat} : ME X Z G W (.Constant (.bool b) j p) (.lit (.bl b)) := se_con pe_bl fun _ => .bl
theorem me_non (M : Mx X Z G k W t) {j : Nat} : ME X Z G W (.Constant .none j p) (.lit .non) := se_con pe_non fun _ => .non
theorem me_str (M : Mx X Z G k W t) {l : List Nat} {x : Str} {j : Nat} (h : x = st l := by decide +kernel) : ME X Z G W (.Constant (.str x) j p) (.lit (.str l)) := by
  subst h; exact se_con pe_str fun _ => .str
theorem pe_glb {x : Str} {a : Addr} (hg : Gl X x) (hm : X.mg x = some (.ref a)) (hd : (x == ("__debug__" : Str)) = false) : PE X (.Name x p) (tC (.ref a)) := ⟨fun _ _ _ H _ I h => ld_glob I hg hm ⟨.ref a, H, I, rfl, h⟩ hd⟩
/-- a def's name as a value -/
theorem me_fn (M : Mx X Z G k W t) {x : Str} {i : Nat} (hi : Nat.blt i Z.nfn = true := by rfl) (hx : x = Z.fnn i := by rfl) (hg : Gl X x := by rfl) (hd : (x == ("__debug__" : Str)) = false := by decide +kernel) : ME X Z G W (.Name x p) (.lit (.fn i)) :=
  se_con (pe_glb hg (by rw [hx]; exact (M.T.fn i (ltb hi)).1) hd) fun _ => .fn
/-- a constant of the top -/
theorem me_con (M : Mx X Z G k W t) (j : Nat) {x : Str} {d : D} (hc : Z.con j = some (x, d) := by rfl) (hg : Gl X x := by rfl) (hd : (x == ("__debug__" : Str)) = false := by decide +kernel) : ME X Z G W (.Name x p) (.lit d) := by
  obtain ⟨v, u, hm, r, rd⟩ := M.T.con j x d hc
  exact se_con ⟨fun _ _ _ H _ I h => ld_glob I hg hm ⟨v, H, I, r, h⟩ hd⟩ rd
theorem me_kin (M : Mx X Z G k W t) (j : Nat) {x : Str} {kvs : List (List Nat × D)} (ha : ME X Z G W a₀ ia) (hc : Z.kdc j = some (x, kvs) := by rfl) (hp : Z.par = some X.w.params := by rfl) (hg : Gl X x := by rfl) (hd : (x == ("__debug__" : Str)) = false := by decide +kernel) (hm : behindInMarks .In (.Name x p) = false := by first | rfl | exact nomark _) : ME X Z G W (.Compare a₀ [.In] [.Name x p] pos) (.kin false ia kvs) := by
  obtain ⟨P, d, es, n, e1, hn, kd⟩ := M.T.kdc j x kvs hc
  rw [hp] at e1
  cases e1
  have D : KDict X.K X.w d es n := ⟨kd.at_, kd.lit, kd.low⟩
  have hb : PE X (.Name x p) (tC (.ref d)) := ⟨fun _ _ _ H _ I h => ld_glob I hg hn ⟨.ref d, H, I, rfl, h⟩ hd⟩
  refine PE.imp (pe_cmpR (op_in_kd D) ha hb hm) fun τ H Q ⟨σ, S, Qa, E, er, sr, w, q, qe⟩ => ?_
  refine ⟨σ, S, _, E, er, sr, w, fun v u S1 H1 k1 sr1 rd1 w1 => ?_, qe⟩
  dsimp only at w1
  split at w1
  · rename_i l
    cases rd1
    rcases kd.look l with ⟨u, t, v, h1, h2, h3, h4⟩ | ⟨h1, h2⟩
    · refine ⟨st l, _, rfl, rfl, h1, ?_⟩
      rw [h2] at w1
      exact q (.bl true) (.bl true) S1 H1 k1 sr1 .bl w1
    · refine ⟨st l, _, rfl, rfl, h1, ?_⟩
      rw [h2] at w1
      exact q (.bl false) (.bl false) S1 H1 k1 sr1 .bl w1
  · exact w1.elim
theorem me_kix (M : Mx X Z G k W t) (j : Nat) {x : Str} {kvs : List (List Nat × D)} (ha : ME X Z G W a₀ ia) (hc : Z.kdc j = some (x, kvs) := by rfl) (hp : Z.par = some X.w.params := by rfl) (hg : Gl X x := by rfl) (hd : (x == ("__debug__" : Str)) = false := by decide +kernel) (hs : PlainIx a₀ := by intro _ _; rfl) : ME X Z G W (.Subscript (.Name x p) a₀ pos) (.kix kvs ia) := by
  obtain ⟨P, d, es, n, e1, hn, kd⟩ := M.T.kdc j x kvs hc
  rw [hp] at e1
  cases e1
  have hb : PE X (.Name x p) (tC (.ref d)) := ⟨fun _ _ _ H _ I h => ld_glob I hg hn ⟨.ref d, H, I, rfl, h⟩ hd⟩
  refine PE.imp (pe_ix ix_kdict hb ha hs) fun τ H Q ⟨σ, S, Qa, E, er, sr, w, q, qe⟩ => ?_
  refine ⟨σ, S, _, E, er, sr, w, fun v u S1 H1 k1 sr1 rd1 w1 => ?_, qe⟩
  dsimp only at w1
  split at w1
  · rename_i l
    cases rd1
    rcases kd.look l with ⟨u, t, v, h1, h2, h3, h4⟩ | ⟨h1, h2⟩
    · rw [h2] at w1
      exact ⟨d, st l, v, rfl, rfl, ⟨es, n, u, kd.at_, kd.lit, h1, h3⟩, q t v S1 H1 k1 sr1 (h4 _) w1⟩
    · rw [h2] at w1
      exact w1.elim
  · exact w1.elim
theorem me_bin (M : Mx X Z G k W t) {op : Bop} {o : Operator} (ha : ME X Z G W a₀ ia) (hb : ME X Z G W b₀ ib) (ho : o = bopOf op := by rfl) : ME X Z G W (.BinOp a₀ o b₀ pos) (.bin op ia ib) := by subst ho; exact se_bin M.F.zk ha hb
theorem me_cmp (M : Mx X Z G k W t) {op : Cop} {o : CmpOp} (ha : ME X Z G W a₀ ia) (hb : ME X Z G W b₀ ib) (ho : o = copOf op := by rfl) (hm : behindInMarks o b₀ = false := by first | rfl | exact nomark _) : ME X Z G W (.Compare a₀ [o] [b₀] pos) (.cmp op ia ib) := by subst ho; exact se_cmp M.F.zk M.F.hu ha hb hm
theorem mt_cmp (M : Mx X Z G k W t) {op : Cop} {o : CmpOp} (ha : ME X Z G W a₀ ia) (hb : ME X Z G W b₀ ib) (ho : o = copOf op := by rfl) (hm : behindInMarks o b₀ = false := by first | rfl | exact nomark _) : MT X Z G W (.Compare a₀ [o] [b₀] pos) (.cmp op ia ib) := by subst ho; exact st_cmp M.F.zk M.F.hu ha hb hm
theorem me_chn (M : Mx X Z G k W t) {op oq : Cop} {o o2 : CmpOp} (ha : ME X Z G W a₀ ia) (hb : ME X Z G W b₀ ib) (hc : ME X Z G W c₀ ic) (ho : o = copOf op := by rfl) (ho2 : o2 = copOf oq := by rfl) (hm : lastMarks [o, o2] [b₀, c₀] = false := by rfl) : ME X Z G W (.Compare a₀ [o, o2] [b₀, c₀] pos) (.chn op oq ia ib ic) := by subst ho ho2; exact se_chn M.F ha hb hc hm
theorem mt_chn (M : Mx X Z G k W t) {op oq : Cop} {o o2 : CmpOp} (ha : ME X Z G W a₀ ia) (hb : ME X Z G W b₀ ib) (hc : ME X Z G W c₀ ic) (ho : o = copOf op := by rfl) (ho2 : o2 = copOf oq := by rfl) (hm : lastMarks [o, o2] [b₀, c₀] = false := by rfl) : MT X Z G W (.Compare a₀ [o, o2] [b₀, c₀] pos) (.chn op oq ia ib ic) := by subst ho ho2; exact st_chn M.F ha hb hc hm
theorem me_neg (M : Mx X Z G k W t) (ha : ME X Z G W a₀ ia) : ME X Z G W (.UnaryOp .USub a₀ pos) (.neg ia) := se_neg ha
theorem me_not (M : Mx X Z G k W t) (ha : ME X Z G W a₀ ia) : ME X Z G W (.UnaryOp .Not a₀ pos) (.not ia) := se_not M.F.zk ha
theorem me_one (M : Mx X Z G k W t) {op : BoolOp} (ha : ME X Z G W a₀ ia) : ME X Z G W (.BoolOp op [a₀] pos) ia := se_one ha
theorem me_and (M : Mx X Z G k W t) {rest : List Expr} (ha : ME X Z G W a₀ ia) (hb : ME X Z G W (.BoolOp .And (b₀ :: rest) pos) ib) : ME X Z G W (.BoolOp .And (a₀ :: b₀ :: rest) pos) (.and ia ib) := se_and M.F.zk ha hb
theorem me_or (M : Mx X Z G k W t) {rest : List Expr} (ha : ME X Z G W a₀ ia) (hb : ME X Z G W (.BoolOp .Or (b₀ :: rest) pos) ib) : ME X Z G W (.BoolOp .Or (a₀ :: b₀ :: rest) pos) (.or ia ib) := se_or M.F.zk ha hb
theorem mt_of (M : Mx X Z G k W t) (ha : ME X Z G W a₀ ia) (he : ∀ whole, isTrue a₀ X.env whole = (do let v ← whole; standAt a₀.pos; holding [v] (truthy v)) := by intro _; rfl) : MT X Z G W a₀ ia := st_plain M.F.zk ha he
theorem mt_not (M : Mx X Z G k W t) (ha : MT X Z G W a₀ ia) : MT X Z G W (.UnaryOp .Not a₀ pos) (.not ia) := st_not ha
theorem mw_and1 (M : Mx X Z G k W t) (ha : MT X Z G W a₀ ia) : MW X Z G W (.BoolOp .And [a₀] pos) ia := sw_and1 ha
theorem mw_or1 (M : Mx X Z G k W t) (ha : MT X Z G W a₀ ia) : MW X Z G W (.BoolOp .Or [a₀] pos) ia := sw_or1 ha
theorem mw_and (M : Mx X Z G k W t) {rest : List Expr} (ha : MT X Z G W a₀ ia) (hb : MW X Z G W (.BoolOp .And (b₀ :: rest) pos) ib) : MW X Z G W (.BoolOp .And (a₀ :: b₀ :: rest) pos) (.and ia ib) := sw_and ha hb
theorem mw_or (M : Mx X Z G k W t) {rest : List Expr} (ha : MT X Z G W a₀ ia) (hb : MW X Z G W (.BoolOp .Or (b₀ :: rest) pos) ib) : MW X Z G W (.BoolOp .Or (a₀ :: b₀ :: rest) pos) (.or ia ib) := sw_or ha hb
theorem mt_w (M : Mx X Z G k W t) (h : MW X Z G W a₀ ia) : MT X Z G W a₀ ia := SWt.t h
theorem me_ite (M : Mx X Z G k W t) (hc : MT X Z G W c₀ ic) (ha : ME X Z G W a₀ ia) (hb : ME X Z G W b₀ ib) : ME X Z G W (.IfExp c₀ a₀ b₀ pos) (.ite ic ia ib) := se_ite hc ha hb
theorem ma_nil (M : Mx X Z G k W t) : MA X Z G W [] .nil := sa_nil
theorem ma_cons (M : Mx X Z G k W t) {es : List Expr} (ha : ME X Z G W a₀ ia) (hs : MA X Z G W es is) (hst : starEach (a₀ :: es) X.env = (false, eval a₀ X.env) :: starEach es X.env := by rfl) : MA X Z G W (a₀ :: es) (.cons ia is) := sa_cons ha hs hst
theorem me_tup (M : Mx X Z G k W t) {es : List Expr} {kk : Nat} (hs : MA X Z G W es is) : ME X Z G W (.Tuple es kk pos) (.tup is) := se_tup hs
theorem me_lst (M : Mx X Z G k W t) {es : List Expr} (hs : MA X Z G W es is) : ME X Z G W (.List es pos) (.lst is) := se_lst hs
theorem me_ix (M : Mx X Z G k W t) (ha : ME X Z G W a₀ ia) (hb : ME X Z G W b₀ ib) (hp : PlainIx b₀ := by intro _ _; rfl) : ME X Z G W (.Subscript a₀ b₀ pos) (.ix ia ib) := se_ix M.F.zk M.F.hu ha hb hp
theorem mo_none (M : Mx X Z G k W t) : MO X Z G W none .none := so_none
theorem mo_some (M : Mx X Z G k W t) (ha : ME X Z G W a₀ ia) : MO X Z G W (some a₀) (.some ia) := so_some ha
theorem me_slc (M : Mx X Z G k W t) {lo hi : Option Expr} {il ih : Exo} {p2 : Pos} (ha : ME X Z G W a₀ ia) (hl : MO X Z G W lo il) (hh : MO X Z G W hi ih) : ME X Z G W (.Subscript a₀ (.Slice lo hi none p2) pos) (.slc ia il ih) := se_slc M.F.zk ha hl hh
theorem me_att (M : Mx X Z G k W t) {f : Nat} {x : Str} (ha : ME X Z G W a₀ ia) (hf : Nat.blt f Z.nf = true := by rfl) (hx : x = Z.fld f := by rfl) (hb : attributeBase a₀ x X.env (eval a₀ X.env) = eval a₀ X.env := by rfl) : ME X Z G W (.Attribute a₀ x pos) (.att ia f) := se_att M.F (ltb hf) hx ha hb
theorem me_call (M : Mx X Z G k W t) {x : Str} {i : Nat} (ha : MA X Z G W (e₀ :: es₀) is) (hi : Nat.blt i Z.nfn = true := by rfl) (hx : x = Z.fnn i := by rfl) (hg : Gl X x := by rfl) (hdb : (x == ("__debug__" : Str)) = false := by decide +kernel)
    (he : starEach (e₀ :: es₀) X.env = (false, eval e₀ X.env) :: starEach es₀ X.env := by rfl) (hpl : (backTo pos (starEach es₀ X.env)).any (·.1) = false := by rfl) : ME X Z G W (.Call (.Name x p) (e₀ :: es₀) [] pos) (.call i is) := by
  subst hx; exact se_call M.F M.tk hg (M.T.fn i (ltb hi)).1 (M.T.fn i (ltb hi)).2 hdb ha he hpl
theorem me_call0 (M : Mx X Z G k W t) {x : Str} {i : Nat} (hi : Nat.blt i Z.nfn = true := by rfl) (hx : x = Z.fnn i := by rfl) (hg : Gl X x := by rfl) (hdb : (x == ("__debug__" : Str)) = false := by decide +kernel) : ME X Z G W (.Call (.Name x p) [] [] pos) (.call i .nil) := by
  subst hx; exact se_call0 M.F M.tk hg (M.T.fn i (ltb hi)).1 (M.T.fn i (ltb hi)).2 hdb
theorem me_callv (M : Mx X Z G k W t) {x : Str} (j : Nat) (ha : MA X Z G W (e₀ :: es₀) is) (hN : X.N[j]? = some x := by rfl) (hv : Vis X.env.scope x := by first | exact Or.inl rfl | exact Or.inr (Or.inl rfl) | exact Or.inr (Or.inr rfl)) (hd : (x == ("__debug__" : Str)) = false := by decide +kernel) (hcd : (x == ("__classdict__" : Str)) = false := by decide +kernel)
    (he : starEach (e₀ :: es₀) X.env = (false, eval e₀ X.env) :: starEach es₀ X.env := by rfl) (hpl : (backTo pos (starEach es₀ X.env)).any (·.1) = false := by rfl) : ME X Z G W (.Call (.Name x p) (e₀ :: es₀) [] pos) (.callv j is) :=
  se_callv M.F M.tk hN hv hd hcd (fun i hi => (M.T.fn i (by rw [← M.T.nf]; exact hi)).2) ha he hpl
theorem me_bi (M : Mx X Z G k W t) {x : Str} {b : Bi} (ha : MA X Z G W (e₀ :: es₀) is) (hv : bootBuiltins x = some (biF b) := by decide +kernel) (hg : Gl X x := by rfl) (hm : Z.nob.contains x = true := by rfl) (hn : x ≠ "__name__" := by decide +kernel) (hdb : (x == ("__debug__" : Str)) = false := by decide +kernel)
    (hF : (∃ id, biF b = .builtin id) ∨ ∃ T, biF b = .type T := by first | exact Or.inl ⟨_, rfl⟩ | exact Or.inr ⟨_, rfl⟩)
    (he : starEach (e₀ :: es₀) X.env = (false, eval e₀ X.env) :: starEach es₀ X.env := by rfl) (hpl : (backTo pos (starEach es₀ X.env)).any (·.1) = false := by rfl) : ME X Z G W (.Call (.Name x p) (e₀ :: es₀) [] pos) (.bi b is) :=
  se_bi M.F M.calm hg (M.T.no x (inb hm)) hv ha hn hdb hF he hpl
theorem me_isi (M : Mx X Z G k W t) {xI xT : Str} {ty : Ty} {pT : Pos} (ha : ME X Z G W a₀ ia) (hI : xI = "isinstance" := by decide +kernel) (hg : Gl X xI := by rfl) (hm : Z.nob.contains xI = true := by rfl) (hgT : Gl X xT := by rfl) (hmT : Z.nob.contains xT = true := by rfl) (hvT : bootBuiltins xT = some (.type (tyName ty)) := by decide +kernel)
    (hn : xT ≠ "__name__" := by decide +kernel) (hdb : (xT == ("__debug__" : Str)) = false := by decide +kernel) (he : starEach [a₀, .Name xT pT] X.env = (false, eval a₀ X.env) :: starEach [.Name xT pT] X.env := by rfl) : ME X Z G W (.Call (.Name xI p) [a₀, .Name xT pT] [] pos) (.isi ia ty) := by
  subst hI; exact se_isi M.F hg (M.T.no _ (inb hm)) hgT (M.T.no _ (inb hmT)) hvT hn hdb ha he (by decide +kernel)
theorem me_new (M : Mx X Z G k W false) {x : Str} {c : Nat} (ha : MA X Z G W (e₀ :: es₀) is) (hc : Nat.blt c Z.nx = true := by rfl) (hx : x = Z.cln c := by rfl) (hg : Gl X x := by rfl) (hdb : (x == ("__debug__" : Str)) = false := by decide +kernel)
    (he : starEach (e₀ :: es₀) X.env = (false, eval e₀ X.env) :: starEach es₀ X.env := by rfl) (hpl : (backTo pos (starEach es₀ X.env)).any (·.1) = false := by rfl) : ME X Z G W (.Call (.Name x p) (e₀ :: es₀) [] pos) (.new c is) := by
  subst hx; exact se_new M.F M.tk (M.ind rfl) hg (M.T.cl c (ltb hc)).1 (M.T.cl c (ltb hc)).2 hdb ha he hpl
theorem me_new0 (M : Mx X Z G k W false) {x : Str} {c : Nat} (hc : Nat.blt c Z.nx = true := by rfl) (hx : x = Z.cln c := by rfl) (hg : Gl X x := by rfl) (hdb : (x == ("__debug__" : Str)) = false := by decide +kernel) : ME X Z G W (.Call (.Name x p) [] [] pos) (.new c .nil) := by
  subst hx; exact se_new0 M.F M.tk (M.ind rfl) hg (M.T.cl c (ltb hc)).1 (M.T.cl c (ltb hc)).2 hdb
theorem me_newo (M : Mx X Z G k W t) {x : Str} {c : Nat} (hn : Z.ni c = true := by rfl) (hc : Nat.blt c Z.nx = true := by rfl) (hx : x = Z.cln c := by rfl) (hg : Gl X x := by rfl) (hdb : (x == ("__debug__" : Str)) = false := by decide +kernel) : ME X Z G W (.Call (.Name x p) [] [] pos) (.newo c) := by
  subst hx; exact se_newo (M.T.no0 c hn).1 (M.T.no0 c hn).2.1 (M.T.no0 c hn).2.2 hg (M.T.cl c (ltb hc)).1 (M.T.cl c (ltb hc)).2 hdb
theorem me_mth (M : Mx X Z G k W t) {m : Nat} {x : Str} {pl : Sem Bool} (ho : ME X Z G W a₀ ia) (ha : MA X Z G W (e₀ :: es₀) is) (hx : x = Z.mn m := by rfl)
    (hst : starEach (e₀ :: es₀) X.env = (false, eval e₀ X.env) :: starEach es₀ X.env := by rfl) (hpl : (backTo pos (starEach es₀ X.env)).any (·.1) = false := by rfl)
    (ht : eval (.Call (.Attribute a₀ x apos) (e₀ :: es₀) [] pos) X.env = (do
      let ov ← eval a₀ X.env
      standAt apos.atName
      let (f, first) ← holding [ov] (getMethod ov x pl)
      callWith pos f first (backTo pos (starEach (e₀ :: es₀) X.env)) (backToKw pos (keywordEach [] X.env))) := by rfl) : ME X Z G W (.Call (.Attribute a₀ x apos) (e₀ :: es₀) [] pos) (.mth m ia is) := se_mth M.F M.tk hx ho ha hst hpl ht
theorem me_mth0 (M : Mx X Z G k W t) {m : Nat} {x : Str} {pl : Sem Bool} (ho : ME X Z G W a₀ ia) (hx : x = Z.mn m := by rfl)
    (ht : eval (.Call (.Attribute a₀ x apos) [] [] pos) X.env = (do
      let ov ← eval a₀ X.env
      standAt apos.atName
      let (f, first) ← holding [ov] (getMethod ov x pl)
      callWith pos f first (backTo pos (starEach [] X.env)) (backToKw pos (keywordEach [] X.env))) := by rfl) : ME X Z G W (.Call (.Attribute a₀ x apos) [] [] pos) (.mth m ia .nil) := se_mth0 M.F M.tk hx ho ht
theorem me_append (M : Mx X Z G k W t) (ho : ME X Z G W a₀ ia) (ha : ME X Z G W e₀ ie) (hbase : attributeBase a₀ "append" X.env (eval a₀ X.env) = eval a₀ X.env := by rfl)
    (hfew : ((backTo pos (starEach [e₀] X.env)).all (fun x => !x.1) && (backToKw pos (keywordEach [] X.env)).all (fun x => x.1.isSome) && decide ([e₀].length + ([] : List Keyword).length + (if ([] : List Keyword).isEmpty then 0 else 1) < 30)) = true := by rfl)
    (hline : (apos.endLine == pos.line) = true := by rfl) (hs : starEach [e₀] X.env = (false, eval e₀ X.env) :: starEach [] X.env := by rfl) : ME X Z G W (.Call (.Attribute a₀ "append" apos) [e₀] [] pos) (.bm .append ia (.cons ie .nil)) :=
  se_bm (m := .append) M.F M.calm PySem.F.plainAttrs_list PySem.F.slot_list_append PySem.F.type_list_append ho (ma_cons M ha (ma_nil M) hs) hbase hfew hline hs rfl
theorem me_extend (M : Mx X Z G k W t) (ho : ME X Z G W a₀ ia) (ha : ME X Z G W e₀ ie) (hbase : attributeBase a₀ "extend" X.env (eval a₀ X.env) = eval a₀ X.env := by rfl)
    (hfew : ((backTo pos (starEach [e₀] X.env)).all (fun x => !x.1) && (backToKw pos (keywordEach [] X.env)).all (fun x => x.1.isSome) && decide ([e₀].length + ([] : List Keyword).length + (if ([] : List Keyword).isEmpty then 0 else 1) < 30)) = true := by rfl)
    (hline : (apos.endLine == pos.line) = true := by rfl) (hs : starEach [e₀] X.env = (false, eval e₀ X.env) :: starEach [] X.env := by rfl) : ME X Z G W (.Call (.Attribute a₀ "extend" apos) [e₀] [] pos) (.bm .extend ia (.cons ie .nil)) :=
  se_bm (m := .extend) M.F M.calm PySem.F.plainAttrs_list PySem.F.slot_list_extend PySem.F.type_list_extend ho (ma_cons M ha (ma_nil M) hs) hbase hfew hline hs rfl
theorem me_pop (M : Mx X Z G k W t) (ho : ME X Z G W a₀ ia) (hbase : attributeBase a₀ "pop" X.env (eval a₀ X.env) = eval a₀ X.env := by rfl) (hline : (apos.endLine == pos.line) = true := by rfl) : ME X Z G W (.Call (.Attribute a₀ "pop" apos) [] [] pos) (.bm .pop ia .nil) :=
  se_bm0 (m := .pop) M.F M.calm PySem.F.plainAttrs_list PySem.F.slot_list_pop PySem.F.type_list_pop ho hbase hline
theorem me_pop1 (M : Mx X Z G k W t) (ho : ME X Z G W a₀ ia) (ha : ME X Z G W e₀ ie) (hbase : attributeBase a₀ "pop" X.env (eval a₀ X.env) = eval a₀ X.env := by rfl)
    (hfew : ((backTo pos (starEach [e₀] X.env)).all (fun x => !x.1) && (backToKw pos (keywordEach [] X.env)).all (fun x => x.1.isSome) && decide ([e₀].length + ([] : List Keyword).length + (if ([] : List Keyword).isEmpty then 0 else 1) < 30)) = true := by rfl)
    (hline : (apos.endLine == pos.line) = true := by rfl) (hs : starEach [e₀] X.env = (false, eval e₀ X.env) :: starEach [] X.env := by rfl) : ME X Z G W (.Call (.Attribute a₀ "pop" apos) [e₀] [] pos) (.bm .pop ia (.cons ie .nil)) :=
  se_bm (m := .pop) M.F M.calm PySem.F.plainAttrs_list PySem.F.slot_list_pop PySem.F.type_list_pop ho (ma_cons M ha (ma_nil M) hs) hbase hfew hline hs rfl
theorem me_index (M : Mx X Z G k W t) (ho : ME X Z G W a₀ ia) (ha : ME X Z G W e₀ ie) (hbase : attributeBase a₀ "index" X.env (eval a₀ X.env) = eval a₀ X.env := by rfl)
    (hfew : ((backTo pos (starEach [e₀] X.env)).all (fun x => !x.1) && (backToKw pos (keywordEach [] X.env)).all (fun x => x.1.isSome) && decide ([e₀].length + ([] : List Keyword).length + (if ([] : List Keyword).isEmpty then 0 else 1) < 30)) = true := by rfl)
    (hline : (apos.endLine == pos.line) = true := by rfl) (hs : starEach [e₀] X.env = (false, eval e₀ X.env) :: starEach [] X.env := by rfl) : ME X Z G W (.Call (.Attribute a₀ "index" apos) [e₀] [] pos) (.bm .index ia (.cons ie .nil)) :=
  se_bm (m := .index) M.F M.calm PySem.F.plainAttrs_list PySem.F.slot_list_index PySem.F.type_list_index ho (ma_cons M ha (ma_nil M) hs) hbase hfew hline hs rfl
/-! ### dicts -/
def MPs (X : Cx) (Z : Nm) (G : Gam) (W : WX) (pos : Pos) (ks : List (Option Expr)) (vs : List Expr) (i : Exs) : Prop := SPs X Z W pos ks vs (wpPs G i)
theorem mp_nil (M : Mx X Z G k W t) : MPs X Z G W pos [] [] .nil := sp_nil
theorem mp_cons (M : Mx X Z G k W t) {ks : List (Option Expr)} {vs : List Expr} (hk : ME X Z G W a₀ ia) (hv : ME X Z G W b₀ ib) (hr : MPs X Z G W pos ks vs is) : MPs X Z G W pos (some a₀ :: ks) (b₀ :: vs) (.cons ia (.cons ib is)) := sp_cons hk hv hr
theorem me_dct (M : Mx X Z G k W t) {ks : List (Option Expr)} {vs : List Expr} (h : MPs X Z G W pos ks vs is) (hall : ks.all (·.isSome) = true := by rfl) (hl : ks.length = vs.length := by rfl) (h0 : ks ≠ [] := by intro h; cases h) (h15 : Nat.ble ks.length 15 = true := by rfl) : ME X Z G W (.Dict ks vs pos) (.dct is) :=
  se_dct h hall hl h0 (Nat.le_of_ble_eq_true h15)
theorem me_dct0 (M : Mx X Z G k W t) : ME X Z G W (.Dict [] [] pos) (.dct .nil) := se_dct0
/-! ### isinstance of two classes -/
theorem me_isi2 (M : Mx X Z G k W t) {xI xT xU : Str} {ty uy : Ty} {pT pU pp : Pos} {kk : Nat} (ha : ME X Z G W a₀ ia) (hI : xI = "isinstance" := by decide +kernel) (hg : Gl X xI := by rfl) (hm : Z.nob.contains xI = true := by rfl) (hgT : Gl X xT := by rfl) (hmT : Z.nob.contains xT = true := by rfl) (hvT : bootBuiltins xT = some (.type (tyName ty)) := by decide +kernel)
    (hn : xT ≠ "__name__" := by decide +kernel) (hdb : (xT == ("__debug__" : Str)) = false := by decide +kernel) (hgU : Gl X xU := by rfl) (hmU : Z.nob.contains xU = true := by rfl) (hvU : bootBuiltins xU = some (.type (tyName uy)) := by decide +kernel) (hnU : xU ≠ "__name__" := by decide +kernel) (hdbU : (xU == ("__debug__" : Str)) = false := by decide +kernel)
    (he : starEach [a₀, .Tuple [.Name xT pT, .Name xU pU] kk pp] X.env = (false, eval a₀ X.env) :: starEach [.Tuple [.Name xT pT, .Name xU pU] kk pp] X.env := by rfl) (he2 : starEach [.Name xT pT, .Name xU pU] X.env = (false, eval (.Name xT pT) X.env) :: starEach [.Name xU pU] X.env := by rfl) : ME X Z G W (.Call (.Name xI p) [a₀, .Tuple [.Name xT pT, .Name xU pU] kk pp] [] pos) (.isi2 ia ty uy) := by
  subst hI
  have hT : PE X (.Name xT pT) (tC (.ty (tyName ty))) := pe_bltn hgT (M.T.no _ (inb hmT)) hvT rfl hn hdb
  have hU : PE X (.Name xU pU) (tC (.ty (tyName uy))) := pe_bltn hgU (M.T.no _ (inb hmU)) hvU rfl hnU hdbU
  refine PE.imp (pe_callB call_isiT hg (M.T.no _ (inb hm)) (by decide +kernel) (pa_cons ha (pa_cons (pe_tup (pa_cons hT (pa_cons hU pa_nil) he2)) pa_nil) he) (by decide +kernel) (by decide +kernel) he) fun τ H Q ⟨σ, S, Qa, E, er, sr, w, q, qe⟩ => ?_
  refine ⟨σ, S, _, E, er, sr, w, fun d v S1 H1 k1 sr1 rd1 w1 => ?_, qe⟩
  dsimp only at w1
  split at w1
  · rename_i r q' e1 e2
    refine ⟨by show 2 ≤ sizeLine; rw [sizeLine_eq]; omega, fun tp hp => ?_⟩
    have tk : TK H1 (upd H1 tp (.tup [.ty (tyName ty), .ty (tyName uy)])) := TK.new hp
    have sr2 := sr1.new (o := .tup [.ty (tyName ty), .ty (tyName uy)]) hp
    obtain ⟨y1, t1, t2, t4⟩ := isi_ty2 (K := X.K) M.F.zk sr2 (rd1.keep tk) e1 e2
    refine ⟨v, tp, _, y1, [.type (tyName ty), .type (tyName uy)], r || q', rfl, upd_same, .cons (.ty _) (.cons (.ty _) .nil), t1, ?_, q (.bl (r || q')) _ S1 _ (k1.trans tk) sr2 .bl w1⟩
    refine kitAny_cons t2 (fun e => ?_) fun e => by rw [e]; rfl
    refine kitAny_cons t4 (fun e3 => ?_) fun e3 => by rw [e3, e]; rfl
    rw [e, e3]
    exact kitAny_nil
  · exact w1.elim
/-! ### backwards -/
theorem range_pick {α : Type} : ∀ l : List α, (List.range l.length).filterMap (fun k => l[k]?) = l
  | [] => rfl
  | a :: l => by
    rw [List.length_cons, List.range_succ_eq_map, List.filterMap_cons]
    show a :: List.filterMap _ _ = _
    rw [List.filterMap_map]
    exact congrArg (a :: ·) (range_pick l)
theorem fm_congr {α β : Type} {f g : α → Option β} : ∀ l : List α, (∀ x ∈ l, f x = g x) → l.filterMap f = l.filterMap g
  | [], _ => rfl
  | a :: l, h => by
    rw [List.filterMap_cons, List.filterMap_cons, h a List.mem_cons_self, fm_congr l fun x hx => h x (List.mem_cons_of_mem _ hx)]
theorem rev_pick (items : Array Value) : (List.range items.size).filterMap (fun (k : Nat) => items[(((items.size : Int) - 1) + (k : Int) * (-1)).toNat]?) = items.toList.reverse := by
  have e := range_pick items.toList.reverse
  rw [List.length_reverse, Array.length_toList] at e
  rw [← e]
  refine fm_congr _ fun k hk => ?_
  have hk := List.mem_range.mp hk
  rw [List.getElem?_reverse (by simpa using hk), Array.getElem?_toList, Array.length_toList]
  congr 1
  omega
theorem rev_adj (n : Nat) : Builtin.Slice.sliceAdjust none none (-1) (n : Int) = ((n : Int) - 1, -1) := rfl
theorem rev_plc (n : Nat) : Builtin.Slice.slicePlaces ((n : Int) - 1) (-1) (-1) = n := by
  unfold Builtin.Slice.slicePlaces
  rw [if_neg (by decide)]
  by_cases h : (n : Int) - 1 > -1
  · rw [if_pos h]
    have : ((n : Int) - 1 - -1 - 1) / - -1 = (n : Int) - 1 := by
      rw [show (- -1 : Int) = 1 by decide, Int.ediv_one]; omega
    rw [this]
    omega
  · rw [if_neg h]; omega
theorem getItem_tuple_rev {prog : Program} {w : World} {A : Around} {E : Value → Shared → Prop} {s : Shared} {t sl : Addr} {items : Array Value} {vl vu vs : Value} {Q : Value → Shared → Prop} (ht : IsTup s.heap t items) (hs : s.heap.IsSliceOf sl vl vu vs) (pl : IsPart vl none) (pu : IsPart vu none) (ps : IsPart vs (some (-1)))
    (h : Q (.ref s.heap.objs.size) { s with heap := s.heap.push { cls := .type "tuple", data := .seq items.toList.reverse.toArray } }) (hsz : items.size ≤ sizeLine) : wpAny (model prog w) A (getItem (.ref t) (.ref sl)) Q E s := by
  have htake : sizeOk (.seq items.toList.reverse.toArray) := by
    show items.toList.reverse.toArray.size ≤ sizeLine
    rw [List.size_toArray, List.length_reverse, Array.length_toList]
    exact hsz
  obtain ⟨os, hos, hcs, hds⟩ := id hs
  have hTs : s.TypeIs (.ref sl) "slice" := ⟨os, hos, hcs⟩
  unfold getItem
  try with_reducible refine wpAny_holding ?_
  first | refine wpAny_bind (wpAny_pure ?_) | skip
  refine wpAny_bind (wpAny_sequenceKey ht.typeIs (by decide) (wpAny_bind (wpAny_callSpecial?_slot (name := Str.ofString "__getitem__") ht.typeIs PyProof.Rows.slot_tuple_getitem
    (wpAny_call_entry PyProof.Rows.slot_tuple_getitem ht.typeIs entry_tuple_getitem ?_ (args_tuple_getitem _ _)))))
  show wpAny _ _ (Builtin.Tuple.tupleItemsOf (.ref t) >>= _) _ _ s
  refine wpAny_bind (tupleItemsOf_ ht (wpAny_bind (wpAny_typeOf hTs ?_)))
  rw [if_pos (by decide)]
  have ap : ∀ (A : Around) (E : Value → Shared → Prop), wpAny (model prog w) A (Builtin.Slice.sliceApplied (.ref sl) (pure (items.size : Int))) (fun r s' => r = (((items.size : Int) - 1), (-1 : Int), items.size) ∧ s' = s) E s := by
    intro A E
    unfold Builtin.Slice.sliceApplied Builtin.Slice.sliceFields
    refine wpAny_bind (wpAny_bind (wpAny_field hos hds (x := vl) rfl (wpAny_bind (wpAny_field hos hds (x := vu) rfl (wpAny_bind (wpAny_field hos hds (x := vs) rfl (wpAny_pure ?_)))))))
    refine wpAny_bind (HT.slicePart_ ps ?_)
    show wpAny _ _ (if ((-1 : Int) == 0) = true then _ else _) _ _ s
    rw [if_neg (by decide)]
    refine wpAny_bind (HT.slicePart_ pl (wpAny_bind (HT.slicePart_ pu (wpAny_bind (wpAny_pure ?_)))))
    show wpAny _ _ (match Builtin.Slice.sliceAdjust none none (-1) (items.size : Int) with | (lo, hi) => pure (lo, (-1 : Int), Builtin.Slice.slicePlaces lo hi (-1))) _ _ s
    rw [rev_adj]
    show wpAny _ _ (pure (((items.size : Int) - 1), (-1 : Int), Builtin.Slice.slicePlaces ((items.size : Int) - 1) (-1) (-1))) _ _ s
    rw [rev_plc]
    exact wpAny_pure ⟨rfl, rfl⟩
  refine wpAny_bind (thn (ap _ _) fun r s' hr => ?_)
  obtain ⟨rfl, rfl⟩ := hr
  have hno : ¬ ((((items.size : Int) - 1) == 0 && (-1 : Int) == 1 && items.size == items.size) = true) := by simp
  show wpAny _ _ (if ((((items.size : Int) - 1) == 0 && (-1 : Int) == 1 && items.size == items.size) = true) then _ else _) _ _ _
  rw [if_neg hno, rev_pick]
  first
    | exact wpAny_bind (m := Builtin.Tuple.tupleExact _) (wpAny_newObj_type (wpAny_pure ⟨_, rfl, wpAny_pure h⟩) htake)
    | exact wpAny_bind (m := Builtin.Tuple.tupleExact _) (wpAny_newObj_type (wpAny_bind (wpAny_pure (wpAny_pure ⟨_, rfl, wpAny_pure h⟩))) htake)
    | exact wpAny_bind (wpAny_bind (m := Builtin.Tuple.tupleExact _) (wpAny_newObj_type (wpAny_pure (wpAny_pure ⟨_, rfl, wpAny_pure h⟩)) htake))
    | exact wpAny_bind (wpAny_bind (m := Builtin.Tuple.tupleExact _) (wpAny_newObj_type (wpAny_pure ⟨_, rfl, wpAny_pure h⟩) htake))
/-- t[::-1], xs[::-1] -/
def tRevA (K : PySem.W.Frag) (te : TE) : TE := fun σ H Q => te σ H fun x H1 => ∃ a xs, x = .ref a ∧ ((SqL K H1 a xs ∧ ∀ p, H1 p = none → Q (.ref p) (upd H1 p (.lst xs.reverse))) ∨ (SqT K H1 a xs ∧ ∀ p, H1 p = none → Q (.ref p) (upd H1 p (.tup xs.reverse))))
theorem pe_revA {e : Expr} {te : TE} {kk : Nat} {p1 p2 p3 pos : Pos} (he : PE X e te) : PE X (.Subscript e (.Slice none none (some (.UnaryOp .USub (.Constant (.int 1) kk p1) p2)) p3) pos) (tRevA X.K te) := by
  refine ⟨fun pins s σ H Q I h => Subscript_ (thn (he.run pins s σ H _ I h) fun v s1 ⟨x, H1, I1, r1, q1⟩ => ?_)⟩
  obtain ⟨a, xs, ex, hx⟩ := q1
  subst ex
  cases r1
  have hst : PO X (some (.UnaryOp .USub (.Constant (.int 1) kk p1) p2)) (tPart (tUn (rU fun i => .int (-i)) (tC (.int 1)))) := po_some (pe_un un_neg pe_int)
  refine wpAny_Slice (thn (po_none.run pins s1 σ H1 (fun o H2 => o = none ∧ H2 = H1) I1 ⟨rfl, rfl⟩) fun vl s2 ⟨l, H2, I2, pl, el, e2⟩ => thn (po_none.run pins s2 σ H2 (fun o H3 => o = none ∧ H3 = H2) I2 ⟨rfl, rfl⟩) fun vu s3 ⟨u, H3, I3, pu, eu, e3⟩ => ?_)
  subst el e2 eu e3
  refine thn (hst.run pins s3 σ _ (fun o H4 => o = some (-1) ∧ H4 = _) I3 ⟨1, rfl, -1, rfl, rfl, rfl⟩) fun vs s4 ⟨o, H4, I4, ps, eo, e4⟩ => ?_
  subst eo e4
  have I5 := I4.kept (h' := s4.heap.push { cls := .type "slice", data := .fields #[vl, vu, vs] }) (t' := s4.toks) fun b ob q => Heap.get?_push_of_some _ q
  show wpAny (model X.prog X.w) X.A (subscriptTail e (.Slice none none (some (.UnaryOp .USub (.Constant (.int 1) kk p1) p2)) p3) (.ref a) (.ref s4.heap.objs.size)) (EP X pins σ Q) X.xe { s4 with heap := s4.heap.push { cls := .type "slice", data := .fields #[vl, vu, vs] } }
  rcases hx with ⟨hx, q⟩ | ⟨hx, q⟩
  · obtain ⟨its, r, ht, hz⟩ := I5.list hx
    have hlen := r.length
    refine tail_any (ops := [.ref a, .ref s4.heap.objs.size]) ht.isList.typeIs (PySem.slot_list_getitem.lookup) ?_ (by with_unfolding_all rfl)
    refine wpAny_getItem_list_slice ht.isList (Heap.IsSliceOf.new _ vl vu vs) pl pu ps (by decide) ?_ (by rw [List.size_toArray]; omega)
    rw [PySem.W.krv_pick]
    refine ⟨.ref _, _, I5.laid (t' := s4.toks) (o := .lst xs.reverse) (fun b ob q => Heap.get?_push_of_some _ q) (Nat.le_refl _) ?_, rfl, q _ (I5.hok.fresh (Nat.le_refl _))⟩
    exact ⟨by rw [List.length_reverse]; exact hz, _, 0, r.reverse, Heap.get?_push_size _ rfl⟩
  · obtain ⟨its, r, ht, hz⟩ := I5.tuple hx
    have hlen := r.length
    refine tail_any (ops := [.ref a, .ref s4.heap.objs.size]) ht.typeIs (PyProof.Rows.slot_tuple_getitem.lookup) ?_ (by with_unfolding_all rfl)
    refine getItem_tuple_rev ht (Heap.IsSliceOf.new _ vl vu vs) pl pu ps ?_ (by rw [List.size_toArray]; omega)
    refine ⟨.ref _, _, I5.laid (t' := s4.toks) (o := .tup xs.reverse) (fun b ob q => Heap.get?_push_of_some _ q) (Nat.le_refl _) ?_, rfl, q _ (I5.hok.fresh (Nat.le_refl _))⟩
    exact ⟨by rw [List.length_reverse]; exact hz, _, r.reverse, IsTup.new _ _⟩
theorem me_rev (M : Mx X Z G k W t) {kk : Nat} {p1 p2 p3 : Pos} (ha : ME X Z G W a₀ ia) : ME X Z G W (.Subscript a₀ (.Slice none none (some (.UnaryOp .USub (.Constant (.int 1) kk p1) p2)) p3) pos) (.rev ia) :=
  PE.imp (pe_revA ha) fun τ H Q ⟨σ, S, Qa, E, er, sr, w, q, qe⟩ => by
    refine ⟨σ, S, _, E, er, sr, w, fun d v S1 H1 k1 sr1 rd1 w1 => ?_, qe⟩
    unfold revW at w1
    dsimp only at w1
    split at w1
    · cases rd1 with
      | tup t rs => exact ⟨_, _, rfl, .inr ⟨by rw [← M.F.zk]; exact t.sq, (q.keep k1).newT sr1 rs.reverse w1⟩⟩
    · cases rd1
      obtain ⟨ds, e, w1⟩ := w1
      obtain ⟨vs, sq, rs⟩ := rdAt (K := X.K) sr1 e
      exact ⟨_, _, rfl, .inl ⟨sq, (q.keep k1).newL sr1 rs.reverse w1⟩⟩
    · exact w1.elim
/-! ### what loops go over -/
theorem mi_sq (M : Mx X Z G k W t) (ha : ME X Z G W a₀ ia) : MI X Z G W tg a₀ (.sq ia) := si_sq M.F.zk ha
theorem mi_rng (M : Mx X Z G k W t) {x : Str} (hb : ME X Z G W b₀ ib) (hx : x = "range" := by decide +kernel) (hg : Gl X x := by rfl) (hm : Z.nob.contains x = true := by rfl) (hs : starEach [b₀] X.env = [(false, eval b₀ X.env)] := by rfl) : MI X Z G W tg (.Call (.Name x p) [b₀] [] pos) (.rng ib) := by
  subst hx; exact si_rng hg (M.T.no _ (inb hm)) hb hs
theorem mi_rng2 (M : Mx X Z G k W t) {x : Str} (ha : ME X Z G W a₀ ia) (hb : ME X Z G W b₀ ib) (hx : x = "range" := by decide +kernel) (hg : Gl X x := by rfl) (hm : Z.nob.contains x = true := by rfl) (hs : starEach [a₀, b₀] X.env = [(false, eval a₀ X.env), (false, eval b₀ X.env)] := by rfl) (hs2 : starEach [b₀] X.env = [(false, eval b₀ X.env)] := by rfl) :
    MI X Z G W tg (.Call (.Name x p) [a₀, b₀] [] pos) (.rng2 ia ib) := by
  subst hx; exact si_rng2 hg (M.T.no _ (inb hm)) ha hb hs hs2
theorem mi_enum (M : Mx X Z G k W t) {x : Str} {elts : List Expr} {kk : Nat} {tp : Pos} (ha : ME X Z G W a₀ ia) (hx : x = "enumerate" := by decide +kernel) (hg : Gl X x := by rfl) (hm : Z.nob.contains x = true := by rfl) (hs : starEach [a₀] X.env = [(false, eval a₀ X.env)] := by rfl) (hs2 : starEach [a₀] X.env = (false, eval a₀ X.env) :: starEach [] X.env := by rfl) :
    MI X Z G W (.Tuple elts kk tp) (.Call (.Name x p) [a₀] [] pos) (.enum ia) := by
  subst hx; exact si_enum M.F.zk hg (M.T.no _ (inb hm)) ha hs hs2
theorem mi_zip (M : Mx X Z G k W t) {x : Str} {elts : List Expr} {kk : Nat} {tp : Pos} (ha : ME X Z G W a₀ ia) (hb : ME X Z G W b₀ ib) (hx : x = "zip" := by decide +kernel) (hg : Gl X x := by rfl) (hm : Z.nob.contains x = true := by rfl) (hs : starEach [a₀, b₀] X.env = (false, eval a₀ X.env) :: starEach [b₀] X.env := by rfl) (hs2 : starEach [b₀] X.env = (false, eval b₀ X.env) :: starEach [] X.env := by rfl)
    (hpl : (backTo pos (starEach [b₀] X.env)).any (·.1) = false := by rfl) : MI X Z G W (.Tuple elts kk tp) (.Call (.Name x p) [a₀, b₀] [] pos) (.zip ia ib) := by
  subst hx; exact si_zip M.F.zk hg (M.T.no _ (inb hm)) ha hb hs hs2 hpl
theorem me_lzip (M : Mx X Z G k W t) {x y : Str} {p2 pos2 : Pos} (ha : ME X Z G W a₀ ia) (hb : ME X Z G W b₀ ib) (hx : x = "list" := by decide +kernel) (hy : y = "zip" := by decide +kernel) (hg : Gl X x := by rfl) (hm : Z.nob.contains x = true := by rfl) (hg2 : Gl X y := by rfl) (hm2 : Z.nob.contains y = true := by rfl)
    (hs : starEach [a₀, b₀] X.env = (false, eval a₀ X.env) :: starEach [b₀] X.env := by rfl) (hs2 : starEach [b₀] X.env = (false, eval b₀ X.env) :: starEach [] X.env := by rfl) (hpl : (backTo pos2 (starEach [b₀] X.env)).any (·.1) = false := by rfl) :
    ME X Z G W (.Call (.Name x p) [.Call (.Name y p2) [a₀, b₀] [] pos2] [] pos) (.lzip ia ib) := by
  subst hx; subst hy
  refine PE.imp (ZM.pe_lzip (Z := Z) M.F.zk M.calm hg (M.T.no _ (inb hm)) hg2 (M.T.no _ (inb hm2)) (pa_cons ha (pa_cons hb pa_nil hs2) hs) hs hpl) fun τ H Q ⟨σ, S, Qa, E, er, sr, w, q, qe⟩ => ?_
  refine two_ok (R := fun x y H2 => ∃ (a b : Addr) (ds es : List D) (S : Sto), ([x, y] : List V) = [.ref a, .ref b] ∧ SR Z S H2 ∧ rd S a = some ds ∧ (∃ us, TupAt X.K H2 b us ∧ RDs Z H2 es us) ∧ (zipD ds es).length < sizeLine ∧ ∀ q H', S q = none → TK H2 H' → SR Z (S.upd q (.lst (zipD ds es))) H' → Q (.ref q) H') er sr w qe fun {S2 H2 x y v u} k sr' rx ry h => ?_
  unfold lzW at h
  split at h
  · rename_i a es
    obtain ⟨ds, e1, e2, h⟩ := h
    cases rx
    cases ry with
    | tup ht ru =>
      exact ⟨a, _, ds, es, S2, rfl, sr', e1, ⟨_, M.F.zk ▸ ht, ru⟩, e2, fun q' H' hq tk sr2 => q _ _ _ H' (k.trans tk) sr2 .ref (h q' hq)⟩
  · exact h.elim
/-! ### comprehensions -/
theorem mc_none : MC X Z G [] .none := sc_none
theorem mc_some (ha : MT X Z G W0 a₀ ia) : MC X Z G [a₀] (.some ia) := sc_some ha
theorem mg_name (M : Mx X Z G k W t) (i : Nat) {x : Str} (hi : X.N[i]? = some x := by rfl) (hx : Loc X.env.scope x := by first | exact Or.inl rfl | exact Or.inr rfl) (hf : X.fn x = true ∨ X.env.scope.names.lookup x = some .local := by first | exact Or.inl rfl | exact Or.inr rfl) : PG X (.Name x p) (gTg X.K (.nm i)) := tg_name M.nd hi hx hf
theorem mg_nil (M : Mx X Z G k W t) : PGs X [] (gIs []) := tg_nil
theorem mg_cons (M : Mx X Z G k W t) {i : Nat} {is : List Nat} {x : Str} {es : List Expr} (h : PGs X es (gIs is)) (hi : X.N[i]? = some x := by rfl) (hx : Loc X.env.scope x := by first | exact Or.inl rfl | exact Or.inr rfl) (hf : X.fn x = true ∨ X.env.scope.names.lookup x = some .local := by first | exact Or.inl rfl | exact Or.inr rfl)
    (hs : (assignEach (.Name x p :: es) X.env).map (·.2) = assign (.Name x p) X.env :: (assignEach es X.env).map (·.2) := by rfl) : PGs X (.Name x p :: es) (gIs (i :: is)) := tg_cons M.nd hi hx hf h hs
theorem mg_tup (M : Mx X Z G k W t) {is : List Nat} {es : List Expr} {kk : Nat} (h : PGs X es (gIs is)) (hn : (assignEach es X.env).length = is.length := by rfl) (hst : (assignEach es X.env).findIdx? (·.1) = none := by rfl) : PG X (.Tuple es kk pos) (gTg X.K (.tp is)) := pgs_names h M.calm hn hst
theorem Mx.blk (M : Mx X Z G k W t) (s : Shared) (H : Hp) (C : Addr) (cl : List (Str × Addr)) (fp : List Addr) {scope : Scope} : Mx (X.blk s H scope (compEnvC scope cl C X.env) fp) Z G k W0 false := ⟨M.F, M.T, takes0, M.calm, M.nd, PassesOwn.never, fun _ _ _ _ _ _ h => h⟩
theorem me_lc (M : Mx X Z G k W t) {elt iter : Expr} {ifs : List Expr} {scope : Scope} (own : List (Str × Nat)) {ii : Itr} {it : Exo} {tt : Tg} (hi : MI X Z G W tg iter ii)
    (hg : ∀ (s : Shared) (H : Hp) (C : Addr) (cl : List (Str × Addr)) (fp : List Addr), Mx (X.blk s H scope (compEnvC scope cl C X.env) fp) Z G k W0 false → PG (X.blk s H scope (compEnvC scope cl C X.env) fp) tg (gTg X.K tt))
    (ht : ∀ (s : Shared) (H : Hp) (C : Addr) (cl : List (Str × Addr)) (fp : List Addr), Mx (X.blk s H scope (compEnvC scope cl C X.env) fp) Z G k W0 false → MC (X.blk s H scope (compEnvC scope cl C X.env) fp) Z G ifs it)
    (he : ∀ (s : Shared) (H : Hp) (C : Addr) (cl : List (Str × Addr)) (fp : List Addr), Mx (X.blk s H scope (compEnvC scope cl C X.env) fp) Z G k W0 false → ME (X.blk s H scope (compEnvC scope cl C X.env) fp) Z G W0 elt ie)
    (ok : blkC X.N X.env.scope scope own = true := by rfl) (ho : own.map (·.2) = tt.slots := by rfl) (hs : ∀ x, foldedSetIterable iter X.env x = pure x := by intro _; rfl) : ME X Z G W (.ListComp elt [⟨tg, iter, ifs, 0⟩] scope pos) (.lc ie tt ii it) :=
  se_lc M.F.zk M.calm M.nd hi (blkOk_by ok) ho (fun s H C cl fp => hg s H C cl fp (M.blk s H C cl fp)) (fun s H C cl fp => ht s H C cl fp (M.blk s H C cl fp)) (fun s H C cl fp => he s H C cl fp (M.blk s H C cl fp)) hs
theorem me_dc (M : Mx X Z G k W t) {kx vx iter : Expr} {ifs : List Expr} {scope : Scope} (own : List (Str × Nat)) {ii : Itr} {it : Exo} {tt : Tg} (hi : MI X Z G W tg iter ii)
    (hg : ∀ (s : Shared) (H : Hp) (C : Addr) (cl : List (Str × Addr)) (fp : List Addr), Mx (X.blk s H scope (compEnvC scope cl C X.env) fp) Z G k W0 false → PG (X.blk s H scope (compEnvC scope cl C X.env) fp) tg (gTg X.K tt))
    (ht : ∀ (s : Shared) (H : Hp) (C : Addr) (cl : List (Str × Addr)) (fp : List Addr), Mx (X.blk s H scope (compEnvC scope cl C X.env) fp) Z G k W0 false → MC (X.blk s H scope (compEnvC scope cl C X.env) fp) Z G ifs it)
    (hk : ∀ (s : Shared) (H : Hp) (C : Addr) (cl : List (Str × Addr)) (fp : List Addr), Mx (X.blk s H scope (compEnvC scope cl C X.env) fp) Z G k W0 false → ME (X.blk s H scope (compEnvC scope cl C X.env) fp) Z G W0 kx ia)
    (he : ∀ (s : Shared) (H : Hp) (C : Addr) (cl : List (Str × Addr)) (fp : List Addr), Mx (X.blk s H scope (compEnvC scope cl C X.env) fp) Z G k W0 false → ME (X.blk s H scope (compEnvC scope cl C X.env) fp) Z G W0 vx ie)
    (ok : blkC X.N X.env.scope scope own = true := by rfl) (ho : own.map (·.2) = tt.slots := by rfl) (hs : ∀ x, foldedSetIterable iter X.env x = pure x := by intro _; rfl) : ME X Z G W (.DictComp kx vx [⟨tg, iter, ifs, 0⟩] scope pos) (.dc ia ie tt ii it) :=
  se_dc M.F.zk M.calm M.nd hi (blkOk_by ok) ho (fun s H C cl fp => hg s H C cl fp (M.blk s H C cl fp)) (fun s H C cl fp => ht s H C cl fp (M.blk s H C cl fp)) (fun s H C cl fp => hk s H C cl fp (M.blk s H C cl fp)) (fun s H C cl fp => he s H C cl fp (M.blk s H C cl fp)) hs
/-! ### statements -/
theorem mb_nil (M : Mx X Z G k W t) : MB X Z G W [] .nil := ss_nil
theorem mb_cons (M : Mx X Z G k W t) {s : Stmt} {ss : List Stmt} {i : Stm} {js : Stms} (h1 : MS X Z G W s i) (h2 : MB X Z G W ss js) : MB X Z G W (s :: ss) (.cons i js) := ss_cons (w1 := wpS G i) (w2 := wpSs G js) h1 h2
theorem ms_pass (M : Mx X Z G k W t) : MS X Z G W (.Pass pos) .pass := ss_pass
theorem ms_brk (M : Mx X Z G k W t) : MS X Z G W (.Break pos) .brk := ss_brk
theorem ms_cnt (M : Mx X Z G k W t) : MS X Z G W (.Continue pos) .cnt := ss_cnt
theorem ms_ret (M : Mx X Z G k W t) (ha : ME X Z G W a₀ ia) : MS X Z G W (.Return (some a₀) pos) (.ret ia) := ss_ret ha
theorem ms_retN (M : Mx X Z G k W t) : MS X Z G W (.Return none pos) (.ret (.lit .non)) := ss_retN
theorem ms_ex (M : Mx X Z G k W t) (ha : ME X Z G W a₀ ia) (hs : swapsWith a₀ none pos.line X.env = pure false := by rfl) : MS X Z G W (.Expr a₀ pos) (.ex ia) := ss_ex ha hs
theorem ms_set (M : Mx X Z G k W t) (i : Nat) {x : Str} (ha : ME X Z G W a₀ ia) (hi : X.N[i]? = some x := by rfl) (hx : Loc X.env.scope x := by first | exact Or.inl rfl | exact Or.inr rfl) (hf : X.fn x = true ∨ X.env.scope.names.lookup x = some .local := by first | exact Or.inl rfl | exact Or.inr rfl)
    (hs : swapsWith a₀ (some (.Name x p)) pos.line X.env = pure false := by rfl) : MS X Z G W (.Assign [.Name x p] a₀ pos) (.set i ia) := ss_set M.nd hi hx hf ha hs
theorem ms_setLc (M : Mx X Z G k W t) (i : Nat) {y : Str} {elt iter : Expr} {ifs : List Expr} {scope : Scope} (own : List (Str × Nat)) {ii : Itr} {it : Exo} {tt : Tg} (hi : MI X Z G W tg iter ii)
    (hg : ∀ (s : Shared) (H : Hp) (C : Addr) (cl : List (Str × Addr)) (fp : List Addr), Mx (X.blk s H scope (compEnvC scope cl C X.env) fp) Z G k W0 false → PG (X.blk s H scope (compEnvC scope cl C X.env) fp) tg (gTg X.K tt))
    (ht : ∀ (s : Shared) (H : Hp) (C : Addr) (cl : List (Str × Addr)) (fp : List Addr), Mx (X.blk s H scope (compEnvC scope cl C X.env) fp) Z G k W0 false → MC (X.blk s H scope (compEnvC scope cl C X.env) fp) Z G ifs it)
    (he : ∀ (s : Shared) (H : Hp) (C : Addr) (cl : List (Str × Addr)) (fp : List Addr), Mx (X.blk s H scope (compEnvC scope cl C X.env) fp) Z G k W0 false → ME (X.blk s H scope (compEnvC scope cl C X.env) fp) Z G W0 elt ie)
    (hy : X.N[i]? = some y := by rfl) (hyl : X.env.scope.names.lookup y = some .local := by rfl) (hsw : swapsWith (.ListComp elt [⟨tg, iter, ifs, 0⟩] scope pos) (some (.Name y p)) apos.line X.env = pure true := by rfl)
    (ok : blkC X.N X.env.scope scope own = true := by rfl) (ho : own.map (·.2) = tt.slots := by rfl) (hs : ∀ x, foldedSetIterable iter X.env x = pure x := by intro _; rfl) : MS X Z G W (.Assign [.Name y p] (.ListComp elt [⟨tg, iter, ifs, 0⟩] scope pos) apos) (.set i (.lc ie tt ii it)) :=
  ss_setLc M.F.zk M.calm M.nd hy hyl hsw hi (blkOk_by ok) ho (fun s H C cl fp => hg s H C cl fp (M.blk s H C cl fp)) (fun s H C cl fp => ht s H C cl fp (M.blk s H C cl fp)) (fun s H C cl fp => he s H C cl fp (M.blk s H C cl fp)) hs
theorem ms_unp (M : Mx X Z G k W t) {is : List Nat} {es : List Expr} {kk : Nat} {tp : Pos} (hg : PG X (.Tuple es kk tp) (gTg X.K (.tp is))) (ha : ME X Z G W a₀ ia) (hs : swapsWithSole [.Tuple es kk tp] a₀ pos.line X.env = pure false := by rfl) (hw : swappedStores [.Tuple es kk tp] a₀ X.env = pure none := by rfl)
    (h1 : (assignEach [.Tuple es kk tp] X.env).map (·.2) = [assign (.Tuple es kk tp) X.env] := by rfl) : MS X Z G W (.Assign [.Tuple es kk tp] a₀ pos) (.unp is ia) := ss_unp M.F.zk hg ha hs hw h1
theorem ms_unpl (M : Mx X Z G k W t) {is : List Nat} {es : List Expr} {kk : Nat} {tp : Pos} (h : PGs X es (gIs is)) (ha : ME X Z G W a₀ ia) (hn : (assignEach es X.env).length = is.length := by rfl) (hst : (assignEach es X.env).findIdx? (·.1) = none := by rfl) (hs : swapsWithSole [.Tuple es kk tp] a₀ pos.line X.env = pure false := by rfl) (hw : swappedStores [.Tuple es kk tp] a₀ X.env = pure none := by rfl)
    (h1 : (assignEach [.Tuple es kk tp] X.env).map (·.2) = [assign (.Tuple es kk tp) X.env] := by rfl) : MS X Z G W (.Assign [.Tuple es kk tp] a₀ pos) (.unpl is ia) := ss_unpl M.F.zk (pg_lst M.calm h hn hst) ha hs hw h1
theorem ms_par (M : Mx X Z G k W t) (i j : Nat) {x y : Str} {px py pt : Pos} {kt k2 : Nat} {pt2 : Pos} (ha : MA X Z G W [a₀, b₀] is) (hij : i ≠ j := by decide) (hi : X.N[i]? = some x := by rfl) (hj : X.N[j]? = some y := by rfl) (hx : X.env.scope.names.lookup x = some .local := by rfl) (hy : X.env.scope.names.lookup y = some .local := by rfl)
    (hw : swappedStores [.Tuple [.Name x px, .Name y py] kt pt] (.Tuple [a₀, b₀] k2 pt2) X.env = pure (some [x, y]) := by rfl) (hs : swapsWithSole [.Tuple [.Name x px, .Name y py] kt pt] (.Tuple [a₀, b₀] k2 pt2) pos.line X.env = pure false := by rfl) :
    MS X Z G W (.Assign [.Tuple [.Name x px, .Name y py] kt pt] (.Tuple [a₀, b₀] k2 pt2) pos) (.unp [i, j] (.tup is)) := ss_par M.calm M.nd hi hj hij hx hy ha hw hs
theorem ms_par3 (M : Mx X Z G k W t) (i j l : Nat) {x y z : Str} {px py pz pt : Pos} {kt k2 : Nat} {pt2 : Pos} (ha : MA X Z G W [a₀, b₀, c₀] is) (hij : i ≠ j := by decide) (hil : i ≠ l := by decide) (hjl : j ≠ l := by decide) (hi : X.N[i]? = some x := by rfl) (hj : X.N[j]? = some y := by rfl) (hl : X.N[l]? = some z := by rfl) (hx : X.env.scope.names.lookup x = some .local := by rfl) (hy : X.env.scope.names.lookup y = some .local := by rfl) (hz : X.env.scope.names.lookup z = some .local := by rfl)
    (hw : swappedStores [.Tuple [.Name x px, .Name y py, .Name z pz] kt pt] (.Tuple [a₀, b₀, c₀] k2 pt2) X.env = pure (some [x, y, z]) := by rfl) (hs : swapsWithSole [.Tuple [.Name x px, .Name y py, .Name z pz] kt pt] (.Tuple [a₀, b₀, c₀] k2 pt2) pos.line X.env = pure false := by rfl) :
    MS X Z G W (.Assign [.Tuple [.Name x px, .Name y py, .Name z pz] kt pt] (.Tuple [a₀, b₀, c₀] k2 pt2) pos) (.unp [i, j, l] (.tup is)) := ss_par3 M.calm M.nd hi hj hl hij hil hjl hx hy hz ha hw hs
theorem ms_unpa (M : Mx X Z G k W t) {f g : Nat} {x y : Str} {kk : Nat} {p1 p2 tp : Pos} (ha : ME X Z G W a₀ ia) (ho : ME X Z G W b₀ ib) (ho2 : ME X Z G W c₀ ic) (hf : Nat.blt f Z.nf = true := by rfl) (hg : Nat.blt g Z.nf = true := by rfl) (hx : x = Z.fld f := by rfl) (hy : y = Z.fld g := by rfl)
    (hs : swapsWithSole [.Tuple [.Attribute b₀ x p1, .Attribute c₀ y p2] kk tp] a₀ pos.line X.env = pure false := by rfl) (hw : swappedStores [.Tuple [.Attribute b₀ x p1, .Attribute c₀ y p2] kk tp] a₀ X.env = pure none := by rfl)
    (h1 : (assignEach [.Tuple [.Attribute b₀ x p1, .Attribute c₀ y p2] kk tp] X.env).map (·.2) = [assign (.Tuple [.Attribute b₀ x p1, .Attribute c₀ y p2] kk tp) X.env] := by rfl) (hn : (assignEach [.Attribute b₀ x p1, .Attribute c₀ y p2] X.env).length = 2 := by rfl) (hst : (assignEach [.Attribute b₀ x p1, .Attribute c₀ y p2] X.env).findIdx? (·.1) = none := by rfl)
    (h2 : (assignEach [.Attribute b₀ x p1, .Attribute c₀ y p2] X.env).map (·.2) = assign (.Attribute b₀ x p1) X.env :: (assignEach [.Attribute c₀ y p2] X.env).map (·.2) := by rfl) (h3 : (assignEach [.Attribute c₀ y p2] X.env).map (·.2) = assign (.Attribute c₀ y p2) X.env :: (assignEach [] X.env).map (·.2) := by rfl) :
    MS X Z G W (.Assign [.Tuple [.Attribute b₀ x p1, .Attribute c₀ y p2] kk tp] a₀ pos) (.unpa ib f ic g ia) := ss_unpa M.F M.calm (ltb hf) (ltb hg) hx hy ha ho ho2 hs hw h1 hn hst h2 h3
theorem ms_setix (M : Mx X Z G k W t) {tp : Pos} (hv : ME X Z G W a₀ ia) (ho : ME X Z G W b₀ ib) (hi : ME X Z G W c₀ ic)
    (ha : ∀ v, assign (.Subscript b₀ c₀ tp) X.env v = (do
      let ov ← holding [v] (eval b₀ X.env)
      let iv ← holding [v, ov] (eval c₀ X.env)
      standAt tp
      holding [v, ov, iv] (setItem ov iv v)
      release [v, ov, iv] []) := by intro _; rfl)
    (hs : swapsWithSole [.Subscript b₀ c₀ tp] a₀ pos.line X.env = pure false := by rfl) (hw : swappedStores [.Subscript b₀ c₀ tp] a₀ X.env = pure none := by rfl) (h1 : (assignEach [.Subscript b₀ c₀ tp] X.env).map (·.2) = [assign (.Subscript b₀ c₀ tp) X.env] := by rfl) :
    MS X Z G W (.Assign [.Subscript b₀ c₀ tp] a₀ pos) (.setix ib ic ia) := ss_setix (by have := M.F.hu; omega) hv ho hi ha hs hw h1
theorem ms_aug (M : Mx X Z G k W t) (i : Nat) {x : Str} {op : Bop} {o : Operator} (ha : ME X Z G W a₀ ia) (ho : o = bopOf op := by rfl) (hi : X.N[i]? = some x := by rfl) (hx : Loc X.env.scope x := by first | exact Or.inl rfl | exact Or.inr rfl) (hf : X.fn x = true ∨ X.env.scope.names.lookup x = some .local := by first | exact Or.inl rfl | exact Or.inr rfl) :
    MS X Z G W (.AugAssign (.Name x p) o a₀ pos) (.aug i op ia) := ss_aug M.F.zk M.nd hi hx hf ha ho
theorem ms_setat (M : Mx X Z G k W t) {f : Nat} {x : Str} (hv : ME X Z G W a₀ ia) (ho : ME X Z G W b₀ ib) (hf : Nat.blt f Z.nf = true := by rfl) (hx : x = Z.fld f := by rfl) (hs : swapsWith a₀ (some (.Attribute b₀ x p)) pos.line X.env = pure false := by rfl) : MS X Z G W (.Assign [.Attribute b₀ x p] a₀ pos) (.setat ib f ia) := ss_setat M.F (ltb hf) hx hv ho hs
theorem ms_augat (M : Mx X Z G k W t) {f : Nat} {x : Str} {op : Bop} {o : Operator} (hv : ME X Z G W a₀ ia) (ho : ME X Z G W b₀ ib) (hf : Nat.blt f Z.nf = true := by rfl) (hx : x = Z.fld f := by rfl) (hop : o = bopOf op := by rfl) : MS X Z G W (.AugAssign (.Attribute b₀ x p) o a₀ pos) (.augat ib f op ia) := ss_augat M.F (ltb hf) hx hv ho hop
theorem ms_ife (M : Mx X Z G k W t) {s1 s2 : List Stmt} {j1 j2 : Stms} (hc : MT X Z G W c₀ ic) (h1 : MB X Z G W s1 j1) (h2 : MB X Z G W s2 j2) : MS X Z G W (.If c₀ s1 s2 pos) (.ife ic j1 j2) := ss_ife hc h1 h2
theorem ms_whl (M : Mx X Z G k W t) {body : List Stmt} {jb : Stms} (hc : MT X Z G W c₀ ic) (hb : MB X Z G W body jb) : MS X Z G W (.While c₀ body [] pos) (.whl ic jb) := ss_whl M.hp hc hb
theorem ms_for (M : Mx X Z G k W t) {body : List Stmt} {iter : Expr} {ii : Itr} {jb : Stms} {tt : Tg} (hi : MI X Z G W tg iter ii) (hg : PG X tg (gTg X.K tt)) (hb : MB X Z G W body jb) (hs : ∀ x, foldedSetIterable iter X.env x = pure x := by intro _; rfl) : MS X Z G W (.For tg iter body [] pos) (.for_ tt ii jb) := ss_for M.F.zk M.hp M.calm hi hg hb hs
/-! ### exceptions -/
/-- what is known of the exceptions' classes: without __init__ -/
structure X0 (K : PySem.W.Frag) (Z : Nm) (G : Gam) (c : Nat) : Prop where
  cn : Z.nc ≤ c ∧ c < Z.nx
  fl : G.xfl c = []
  q : PySem.W.excIn K (Z.cla c) [.type "ValueError", .type "Exception", .type "BaseException", .type "object"] "ValueError.__new__" = true
  ex : PySem.W.subIn K (.ref (Z.cla c)) (.type "BaseException") = some true
  ty : PySem.W.typeIn K (.ref (Z.cla c)) = some (.type "type")
theorem ms_raise0 (M : Mx X Z G k W t) {c : Nat} {x : Str} (h : X0 X.K Z G c) (hx : x = Z.cln c := by rfl) (hg : Gl X x := by rfl) (hdb : (x == ("__debug__" : Str)) = false := by decide +kernel) : MS X Z G W (.Raise (some (.Call (.Name x p) [] [] apos)) none pos) (.raise c .nil) := by
  subst hx; exact ss_raise0 M.calm M.tk h.cn h.fl PySem.F.excBase_ValueError h.q (M.T.cl c h.cn.2).1 (M.T.cl c h.cn.2).2 (raises_own h.ex h.ty) hg hdb
/-- with its own __init__, at f -/
structure X1 (P : Program) (w : World) (K : PySem.W.Frag) (mg : Str → Option Value) (base : Heap) (Z : Nm) (G : Gam) (c : Nat) : Prop where
  cn : Z.nc ≤ c ∧ c < Z.nx
  fl : ∀ f ∈ G.xfl c, f < Z.nf
  sm : (G.xfl c).length ≤ 1000
  T : OexC K (Z.cla c)
  ini : ∃ f fd ps, PySem.W.findIn K (.ref (Z.cla c)) "__init__" = some (some (.ref f)) ∧ PySem.W.typeIn K (.ref f) = some (.type "function") ∧ FnOk P w K mg base (L2.CX P w) 1 f fd ps (SpI (Z.cla c) ((G.xfl c).map Z.fld)) ∧ Binds K fd ps []
theorem ms_raiseI (M : Mx X Z G k W t) {c : Nat} {x : Str} (hk : 2 ≤ k) (h : X1 X.prog X.w X.K X.mg X.base Z G c) (ha : MA X Z G W (e₀ :: es₀) is) (hx : x = Z.cln c := by rfl) (hg : Gl X x := by rfl) (hdb : (x == ("__debug__" : Str)) = false := by decide +kernel)
    (he : starEach (e₀ :: es₀) X.env = (false, eval e₀ X.env) :: starEach es₀ X.env := by rfl) (hpl : (backTo apos (starEach es₀ X.env)).any (·.1) = false := by rfl) : MS X Z G W (.Raise (some (.Call (.Name x p) (e₀ :: es₀) [] apos)) none pos) (.raise c is) := by
  subst hx
  obtain ⟨f, fd, ps, h1, h2, h3, h4⟩ := h.ini
  exact ss_raiseI (fI := 0) (j := 0) M.calm M.tk h.cn h.fl h.T h1 h2 h3 M.F.room.room h4 hg (M.T.cl c h.cn.2).1 ha hdb he hpl h.sm
end
end Mini
end L2
/-! Mini, part O: try over the small language; the levels; the law's end -/
namespace L2
namespace Mini
open PySem PySem.Spec PyProof.Rows
theorem btw {a b c : Nat} (h : (Nat.ble a b && Nat.blt b c) = true) : a ≤ b ∧ b < c := by
  rw [Bool.and_eq_true] at h
  exact ⟨Nat.le_of_ble_eq_true h.1, ltb h.2⟩
/-- what is known of all exceptions -/
structure Xal (P : Program) (w : World) (K : PySem.W.Frag) (mg : Str → Option Value) (base : Heap) (Z : Nm) (G : Gam) : Prop where
  x0 : ∀ c, Z.nc ≤ c ∧ c < Z.nx → G.xfl c = [] → X0 K Z G c
  x1 : ∀ c, Z.nc ≤ c ∧ c < Z.nx → G.xfl c ≠ [] → X1 P w K mg base Z G c
  exm : ∀ c, Z.nc ≤ c ∧ c < Z.nx → ExmOk K Z G c
  xf : ∀ f, f < Z.nfx → XfsOk K Z f
abbrev XA (X : Cx) (Z : Nm) (G : Gam) : Prop := Xal X.prog X.w X.K X.mg X.base Z G
section
variable {X : Cx} {Z : Nm} {G : Gam} {k : Nat} {W : WX} {t : Bool} {a₀ b₀ c₀ e₀ tg : Expr} {es₀ : List Expr} {ia ib ic ie : Ex} {is : Exs} {pos apos p : Pos}
theorem ms_r0 (M : Mx X Z G k W t) (A : XA X Z G) {c : Nat} {x : Str} (hc : (Nat.ble Z.nc c && Nat.blt c Z.nx) = true := by rfl) (hl : Z.xfl c = [] := by rfl) (hx : x = Z.cln c := by rfl) (hg : Gl X x := by rfl) (hdb : (x == ("__debug__" : Str)) = false := by decide +kernel) : MS X Z G W (.Raise (some (.Call (.Name x p) [] [] apos)) none pos) (.raise c .nil) :=
  ms_raise0 M (A.x0 c (btw hc) (by rw [M.T.xf]; exact hl)) hx hg hdb
theorem ms_r1 (M : Mx X Z G (k + 2) W t) (A : XA X Z G) {c : Nat} {x : Str} (ha : MA X Z G W (e₀ :: es₀) is) (hc : (Nat.ble Z.nc c && Nat.blt c Z.nx) = true := by rfl) (hl : (Z.xfl c).isEmpty = false := by rfl) (hx : x = Z.cln c := by rfl) (hg : Gl X x := by rfl) (hdb : (x == ("__debug__" : Str)) = false := by decide +kernel)
    (he : starEach (e₀ :: es₀) X.env = (false, eval e₀ X.env) :: starEach es₀ X.env := by rfl) (hpl : (backTo apos (starEach es₀ X.env)).any (·.1) = false := by rfl) : MS X Z G W (.Raise (some (.Call (.Name x p) (e₀ :: es₀) [] apos)) none pos) (.raise c is) :=
  ms_raiseI M (Nat.le_add_left 2 k) (A.x1 c (btw hc) (by rw [M.T.xf]; intro q; rw [q] at hl; cases hl)) ha hx hg hdb he hpl
theorem Mx.tr (M : Mx X Z G k W t) (W' : WX) (pn : List (Addr × Obj)) (xe : Value → Shared → Prop) (tk : Takes (X.tr pn xe) W') (hp : PassesOwn (model X.prog X.w) X.A X.env xe) : Mx (X.tr pn xe) Z G k W' true := ⟨M.F, M.T, tk, M.calm, M.nd, hp, fun h => Bool.noConfusion h⟩
theorem mh_nil (M : Mx X Z G k W t) : HsOk X Z W G [] [] := hs_nil
theorem nam_of (M : Mx X Z G k W t) {c : Nat} {x : Str} (hc : c < Z.nx) (hx : x = Z.cln c) (hg : Gl X x) (hdb : (x == ("__debug__" : Str)) = false) : Names X x (.ref (Z.cla c)) := ⟨hg, hdb, .inl (by rw [hx]; exact (M.T.cl c hc).1)⟩
theorem mh_ret (M : Mx X Z G k W t) (A : XA X Z G) {c : Nat} {x : Str} {np p1 : Pos} {hds : List ExceptHandler} {hs : List (Nat × Su)} {e : Expr} {d : D} {v : V} (he : ∀ (a : Addr) (pn : List (Addr × Obj)), PE (X.suite a pn) e (tC v)) (rd : ∀ H, RD Z H d v) (r : HsOk X Z W G hds hs)
    (hc : (Nat.ble Z.nc c && Nat.blt c Z.nx) = true := by rfl) (hx : x = Z.cln c := by rfl) (hg : Gl X x := by rfl) (hdb : (x == ("__debug__" : Str)) = false := by decide +kernel) : HsOk X Z W G (.ExceptHandler (some (.Name x np)) none [.Return (some e) pos] p1 :: hds) ((c, .ret (.lit d)) :: hs) :=
  hs_ret (A.exm c (btw hc)) (nam_of M (btw hc).2 hx hg hdb) he rd r
theorem mh_retS (M : Mx X Z G k W t) (A : XA X Z G) {c : Nat} {x y : Str} {l : List Nat} {np p1 p2 : Pos} {j : Nat} {hds : List ExceptHandler} {hs : List (Nat × Su)} (r : HsOk X Z W G hds hs) (h : y = st l := by decide +kernel)
    (hc : (Nat.ble Z.nc c && Nat.blt c Z.nx) = true := by rfl) (hx : x = Z.cln c := by rfl) (hg : Gl X x := by rfl) (hdb : (x == ("__debug__" : Str)) = false := by decide +kernel) : HsOk X Z W G (.ExceptHandler (some (.Name x np)) none [.Return (some (.Constant (.str y) j p2)) pos] p1 :: hds) ((c, .ret (.lit (.str l))) :: hs) := by
  subst h; exact mh_ret M A (fun a pn => pe_str) (fun _ => .str) r hc hx hg hdb
theorem mh_retB (M : Mx X Z G k W t) (A : XA X Z G) {c : Nat} {x : Str} {b : Bool} {np p1 p2 : Pos} {j : Nat} {hds : List ExceptHandler} {hs : List (Nat × Su)} (r : HsOk X Z W G hds hs)
    (hc : (Nat.ble Z.nc c && Nat.blt c Z.nx) = true := by rfl) (hx : x = Z.cln c := by rfl) (hg : Gl X x := by rfl) (hdb : (x == ("__debug__" : Str)) = false := by decide +kernel) : HsOk X Z W G (.ExceptHandler (some (.Name x np)) none [.Return (some (.Constant (.bool b) j p2)) pos] p1 :: hds) ((c, .ret (.lit (.bl b))) :: hs) :=
  mh_ret M A (fun a pn => pe_bl) (fun _ => .bl) r hc hx hg hdb
theorem mh_retN (M : Mx X Z G k W t) (A : XA X Z G) {c : Nat} {x : Str} {np p1 p2 : Pos} {j : Nat} {hds : List ExceptHandler} {hs : List (Nat × Su)} (r : HsOk X Z W G hds hs)
    (hc : (Nat.ble Z.nc c && Nat.blt c Z.nx) = true := by rfl) (hx : x = Z.cln c := by rfl) (hg : Gl X x := by rfl) (hdb : (x == ("__debug__" : Str)) = false := by decide +kernel) : HsOk X Z W G (.ExceptHandler (some (.Name x np)) none [.Return (some (.Constant .none j p2)) pos] p1 :: hds) ((c, .ret (.lit .non)) :: hs) :=
  mh_ret M A (fun a pn => pe_non) (fun _ => .non) r hc hx hg hdb
theorem mh_cnt (M : Mx X Z G k W t) (A : XA X Z G) {c : Nat} {x : Str} {np p1 : Pos} {hds : List ExceptHandler} {hs : List (Nat × Su)} (r : HsOk X Z W G hds hs)
    (hc : (Nat.ble Z.nc c && Nat.blt c Z.nx) = true := by rfl) (hx : x = Z.cln c := by rfl) (hg : Gl X x := by rfl) (hdb : (x == ("__debug__" : Str)) = false := by decide +kernel) : HsOk X Z W G (.ExceptHandler (some (.Name x np)) none [.Continue pos] p1 :: hds) ((c, .cnt) :: hs) := hs_cnt (A.exm c (btw hc)) (nam_of M (btw hc).2 hx hg hdb) r
theorem mh_pass (M : Mx X Z G k W t) (A : XA X Z G) {c : Nat} {x : Str} {np p1 : Pos} {hds : List ExceptHandler} {hs : List (Nat × Su)} (r : HsOk X Z W G hds hs)
    (hc : (Nat.ble Z.nc c && Nat.blt c Z.nx) = true := by rfl) (hx : x = Z.cln c := by rfl) (hg : Gl X x := by rfl) (hdb : (x == ("__debug__" : Str)) = false := by decide +kernel) : HsOk X Z W G (.ExceptHandler (some (.Name x np)) none [.Pass pos] p1 :: hds) ((c, .pass) :: hs) := hs_pass (A.exm c (btw hc)) (nam_of M (btw hc).2 hx hg hdb) r
theorem mh_setS (M : Mx X Z G k W t) (A : XA X Z G) {c : Nat} (i : Nat) {x y z : Str} {l : List Nat} {np p1 p2 p3 : Pos} {j : Nat} {hds : List ExceptHandler} {hs : List (Nat × Su)} (r : HsOk X Z W G hds hs) (h : z = st l := by decide +kernel)
    (hi : X.N[i]? = some y := by rfl) (hy : Loc X.env.scope y := by first | exact Or.inl rfl | exact Or.inr rfl) (hf : X.fn y = true ∨ X.env.scope.names.lookup y = some .local := by first | exact Or.inl rfl | exact Or.inr rfl) (hs' : swapsWith (.Constant (.str z) j p3) (some (.Name y p2)) pos.line X.env = pure false := by rfl)
    (hc : (Nat.ble Z.nc c && Nat.blt c Z.nx) = true := by rfl) (hx : x = Z.cln c := by rfl) (hg : Gl X x := by rfl) (hdb : (x == ("__debug__" : Str)) = false := by decide +kernel) : HsOk X Z W G (.ExceptHandler (some (.Name x np)) none [.Assign [.Name y p2] (.Constant (.str z) j p3) pos] p1 :: hds) ((c, .set i (.str l)) :: hs) := by
  subst h; exact hs_set (A.exm c (btw hc)) (nam_of M (btw hc).2 hx hg hdb) (fun a pn => pe_str) (fun _ => .str) M.nd hi hy hf hs' r
theorem mh_setN (M : Mx X Z G k W t) (A : XA X Z G) {c : Nat} (i : Nat) {x y : Str} {np p1 p2 p3 : Pos} {j : Nat} {hds : List ExceptHandler} {hs : List (Nat × Su)} (r : HsOk X Z W G hds hs)
    (hi : X.N[i]? = some y := by rfl) (hy : Loc X.env.scope y := by first | exact Or.inl rfl | exact Or.inr rfl) (hf : X.fn y = true ∨ X.env.scope.names.lookup y = some .local := by first | exact Or.inl rfl | exact Or.inr rfl) (hs' : swapsWith (.Constant .none j p3) (some (.Name y p2)) pos.line X.env = pure false := by rfl)
    (hc : (Nat.ble Z.nc c && Nat.blt c Z.nx) = true := by rfl) (hx : x = Z.cln c := by rfl) (hg : Gl X x := by rfl) (hdb : (x == ("__debug__" : Str)) = false := by decide +kernel) : HsOk X Z W G (.ExceptHandler (some (.Name x np)) none [.Assign [.Name y p2] (.Constant .none j p3) pos] p1 :: hds) ((c, .set i .non) :: hs) :=
  hs_set (A.exm c (btw hc)) (nam_of M (btw hc).2 hx hg hdb) (fun a pn => pe_non) (fun _ => .non) M.nd hi hy hf hs' r
theorem mh_exf (M : Mx X Z G k W t) (A : XA X Z G) {c f : Nat} (i : Nat) {x n fx : Str} {np p1 p2 p3 : Pos} {hds : List ExceptHandler} {hs : List (Nat × Su)} (r : HsOk X Z W G hds hs) (hi : X.N[i]? = some n := by rfl) (hln : X.env.kindOf n = some .local := by rfl)
    (hv : Vis X.env.scope n := by first | exact Or.inl rfl | exact Or.inr (Or.inl rfl) | exact Or.inr (Or.inr rfl)) (hd : (n == ("__debug__" : Str)) = false := by decide +kernel) (hcd : (n == ("__classdict__" : Str)) = false := by decide +kernel) (hf : Nat.blt f Z.nfx = true := by rfl) (hfx : fx = Z.fld f := by rfl)
    (hb : attributeBase (.Name n p2) fx X.env (eval (.Name n p2) X.env) = eval (.Name n p2) X.env := by rfl)
    (hc : (Nat.ble Z.nc c && Nat.blt c Z.nx) = true := by rfl) (hx : x = Z.cln c := by rfl) (hg : Gl X x := by rfl) (hdb : (x == ("__debug__" : Str)) = false := by decide +kernel) : HsOk X Z W G (.ExceptHandler (some (.Name x np)) (some n) [.Return (some (.Attribute (.Name n p2) fx p3)) pos] p1 :: hds) ((c, .ret (.exf i f)) :: hs) :=
  hs_exf M.F.zk (A.exm c (btw hc)) (nam_of M (btw hc).2 hx hg hdb) M.nd hi hln hv hd hcd hfx (A.xf f (ltb hf)) hb r
theorem mh_exf2 (M : Mx X Z G k W t) (A : XA X Z G) {c f g k2 : Nat} (i : Nat) {x n fx gx : Str} {np p1 p2 p3 p4 p5 p6 : Pos} {hds : List ExceptHandler} {hs : List (Nat × Su)} (r : HsOk X Z W G hds hs) (hi : X.N[i]? = some n := by rfl) (hln : X.env.kindOf n = some .local := by rfl)
    (hv : Vis X.env.scope n := by first | exact Or.inl rfl | exact Or.inr (Or.inl rfl) | exact Or.inr (Or.inr rfl)) (hd : (n == ("__debug__" : Str)) = false := by decide +kernel) (hcd : (n == ("__classdict__" : Str)) = false := by decide +kernel) (hf : Nat.blt f Z.nfx = true := by rfl) (hfx : fx = Z.fld f := by rfl) (hf2 : Nat.blt g Z.nfx = true := by rfl) (hgx : gx = Z.fld g := by rfl)
    (hb : attributeBase (.Name n p2) fx X.env (eval (.Name n p2) X.env) = eval (.Name n p2) X.env := by rfl) (hb2 : attributeBase (.Name n p4) gx X.env (eval (.Name n p4) X.env) = eval (.Name n p4) X.env := by rfl)
    (hs1 : starEach [.Attribute (.Name n p2) fx p3, .Attribute (.Name n p4) gx p5] X.env = (false, eval (.Attribute (.Name n p2) fx p3) X.env) :: starEach [.Attribute (.Name n p4) gx p5] X.env := by rfl) (hs2 : starEach [.Attribute (.Name n p4) gx p5] X.env = (false, eval (.Attribute (.Name n p4) gx p5) X.env) :: starEach [] X.env := by rfl)
    (hc : (Nat.ble Z.nc c && Nat.blt c Z.nx) = true := by rfl) (hx : x = Z.cln c := by rfl) (hg : Gl X x := by rfl) (hdb : (x == ("__debug__" : Str)) = false := by decide +kernel) :
    HsOk X Z W G (.ExceptHandler (some (.Name x np)) (some n) [.Return (some (.Tuple [.Attribute (.Name n p2) fx p3, .Attribute (.Name n p4) gx p5] k2 p6)) pos] p1 :: hds) ((c, .ret (.exf2 i f g)) :: hs) :=
  hs_exf2 M.F.zk (A.exm c (btw hc)) (nam_of M (btw hc).2 hx hg hdb) M.nd hi hln hv hd hcd hfx hgx (A.xf f (ltb hf)) (A.xf g (ltb hf2)) hb hb2 hs1 hs2 r
theorem ms_try (M : Mx X Z G k W t) {body : List Stmt} {h₀ : ExceptHandler} {hds : List ExceptHandler} {hs : List (Nat × Su)} {jb : Stms} (hb : ∀ (W' : WX) (pn : List (Addr × Obj)) (xe : Value → Shared → Prop), Mx (X.tr pn xe) Z G k W' true → MB (X.tr pn xe) Z G W' body jb) (hh : HsOk X Z W G (h₀ :: hds) hs)
    (hst : X.stack = X.env :: X.outer := by rfl) (hf : X.env.frame = some X.env.locals := by rfl) : MS X Z G W (.Try body (h₀ :: hds) [] [] pos) (.try_ jb hs) := ss_try hst hf M.tk (fun W' pn xe tk hp => hb W' pn xe (M.tr W' pn xe tk hp)) hh
end
/-! ### the levels -/
/-- what is fixed of a program: a def's slots, parameters, body; a class's __init__ .. -/
structure Prg where
  ir : Nat → Option (Nat × Nat × Stms)
  io : Nat → Option Nat
  mt : Nat → Nat → Option Nat
  xfl : Nat → List Nat
  xsub : Nat → Nat → Bool
  nfn : Nat
def env0 (L : Nat) (ds : List D) : Env := ds.map some ++ List.replicate (L - ds.length) none
def lvl (p : Prg) : Nat → Gam
  | 0 => ⟨fun _ _ _ _ _ => False, fun _ _ _ _ _ => False, p.mt, p.xfl, p.xsub, p.nfn⟩
  | n + 1 => ⟨fun i ds S Q E => match p.ir i with | some (L, m, b) => ds.length = m ∧ wpSs (lvl p n) b { nx := fun _ S' => Q .non S', rt := Q } (fun x _ S' => E x S') (env0 L ds) S | none => False,
    fun c ds S Q E => match p.io c with | some i => (lvl p n).fn i ds S Q E | none => False, p.mt, p.xfl, p.xsub, p.nfn⟩
theorem lvl_mt (p : Prg) (n : Nat) : (lvl p n).mt = p.mt := by cases n <;> rfl
/-- the written part's word of a program's defs and classes -/
structure Std (P : Program) (w : World) (K : PySem.W.Frag) (mg : Str → Option Value) (base : Heap) (Z : Nm) (p : Prg) : Prop where
  zk : Z.K = K
  cls : ∀ c, c < Z.nc → Cls K (Z.cla c)
  na : ∀ c f, c < Z.nc → f < Z.nf → NoAttr K (Z.cla c) (Z.fld f)
  mth : ∀ c m i, p.mt c m = some i → Meth K (Z.cla c) (Z.mn m) (Z.fa i)
  mnf : ∀ c m i, p.mt c m = some i → ∀ f, f < Z.nf → Z.fld f ≠ Z.mn m
  inis : ∀ c i, p.io c = some i → c < Z.nc ∧ Mk K (Z.cla c) (Z.fa i)
  fns : ∀ i L m b, p.ir i = some (L, m, b) → ∃ x qual st N ps fd, Fun K x qual st (Z.fa i) fd ∧ FnScope N ps (defScope st) ∧ Binds K fd ps [] ∧ N.length = L ∧ ps.length = m ∧
    ∀ (n : Nat) (cdv : Value) (A : Around) (outer : List PySem.Env) (s : Shared) (H : Hp) (E : XK), Mx (cxOf (L2.CX P w) P w K mg base N qual (defScope st) (Z.fa i) cdv A outer s H E) Z (lvl p n) (n + 2) (fun cls d _ H' => E cls d H') false →
      MB (cxOf (L2.CX P w) P w K mg base N qual (defScope st) (Z.fa i) cdv A outer s H E) Z (lvl p n) (fun cls d _ H' => E cls d H') (defBody st) b
theorem er_start {Z : Nm} {H : Hp} {ds : List D} {vs : List V} {N : List Str} (r : RDs Z H ds vs) : ER Z H (env0 N.length ds) (start N vs) := by
  have hl := r.length
  refine ⟨by simp [env0, start, hl], fun i d h => ?_⟩
  unfold Env.get env0 at h
  by_cases hi : i < ds.length
  · rw [List.getElem?_append_left (by simpa using hi), List.getElem?_map, List.getElem?_eq_getElem hi] at h
    cases h
    obtain ⟨v, h1, h2⟩ := r.get (List.getElem?_eq_getElem hi)
    refine ⟨v, ?_, h2⟩
    unfold start
    rw [List.getElem?_append_left (by simp; omega), List.getElem?_map, h1]
    rfl
  · rw [List.getElem?_append_right (by simpa using hi)] at h
    rw [List.getElem?_replicate] at h
    split at h
    · rename_i e
      split at e <;> cases e
    · cases h
theorem fn_lvl {P : Program} {w : World} {K : PySem.W.Frag} {mg : Str → Option Value} {base : Heap} {Z : Nm} {p : Prg} {n i L m : Nat} {b : Stms} {x qual : Str} {st : Stmt} {N ps : List Str} {fd : FuncData} (ih : ∀ A, Rm (n + 2) A → Fx P w K mg base A Z (lvl p n) (n + 2)) (B : ∀ n, Tab K mg Z (lvl p n))
    (e : p.ir i = some (L, m, b)) (F : Fun K x qual st (Z.fa i) fd) (Sc : FnScope N ps (defScope st)) (hN : N.length = L) (hp : ps.length = m)
    (body : ∀ (cdv : Value) (A : Around) (outer : List PySem.Env) (s : Shared) (H : Hp) (E : XK), Mx (cxOf (L2.CX P w) P w K mg base N qual (defScope st) (Z.fa i) cdv A outer s H E) Z (lvl p n) (n + 2) (fun cls d _ H' => E cls d H') false →
      MB (cxOf (L2.CX P w) P w K mg base N qual (defScope st) (Z.fa i) cdv A outer s H E) Z (lvl p n) (fun cls d _ H' => E cls d H') (defBody st) b) :
    FnR P w K mg base (L2.CX P w) (n + 1 + 2) (Z.fa i) fd ps (LS Z ((lvl p (n + 1)).fn i)) := by
  refine Fun.okR F (k := n + 2) Sc (fun vs H Q E h => ?_) (fun cdv A' outer s H vs Q E hr' h => ?_)
  · obtain ⟨ds, S, Qa, Ea, rd, sr, w', _⟩ := h
    unfold lvl at w'
    dsimp only at w'
    rw [e] at w'
    rw [← rd.length, w'.1, hp]
  · obtain ⟨ds, S, Qa, Ea, rd, sr, w', q, qe⟩ := h
    unfold lvl at w'
    dsimp only at w'
    rw [e] at w'
    refine ⟨_, body cdv A' outer s H E ⟨ih _ hr', B n, takes_of rfl rfl rfl rfl, rfl, Sc.nd, passes_of rfl, fun _ _ _ _ _ _ h => h⟩, ?_⟩
    refine ⟨env0 L ds, S, _, _, by rw [← hN]; exact er_start rd, sr, w'.2, ⟨fun σ S' τ H' k er sr' h => q _ _ _ _ k sr' .non h, q, fun _ _ _ _ _ _ _ h => h.elim, fun _ _ _ _ _ _ _ h => h.elim⟩, fun x cls dd σ S' τ H' k er sr' xr h => qe x cls dd S' H' k sr' xr h⟩
theorem lvl_ok {P : Program} {w : World} {K : PySem.W.Frag} {mg : Str → Option Value} {base : Heap} {Z : Nm} {p : Prg} (T : Std P w K mg base Z p) (B : ∀ n, Tab K mg Z (lvl p n)) : ∀ n A, Rm (n + 2) A → Fx P w K mg base A Z (lvl p n) (n + 2)
  | 0, A, hr => ⟨T.zk, hr, fun i ds S Q E h => h.elim, T.cls, T.na, T.mth, T.mnf, fun c ds S Q E h => h.elim⟩
  | n + 1, A, hr => by
    have ih := lvl_ok T B n
    refine ⟨T.zk, hr, fun i ds S Q E h => ?_, T.cls, T.na, T.mth, T.mnf, fun c ds S Q E h => ?_⟩
    · have h' := h
      unfold lvl at h'
      dsimp only at h'
      split at h'
      · rename_i L m b e
        obtain ⟨x, qual, st, N, ps, fd, F, Sc, hb, hN, hp, body⟩ := T.fns i L m b e
        exact ⟨fd, ps, fn_lvl ih B e F Sc hN hp (body n), hb, F.kp⟩
      · exact h'.elim
    · unfold lvl at h
      dsimp only at h
      split at h
      · rename_i i e
        obtain ⟨hc, M⟩ := T.inis c i e
        obtain ⟨fd, ps, ok, hb, kp⟩ := (ih A (hr.mono (Nat.le_succ _))).fn i ds S Q E h
        refine ⟨hc, Z.fa i, fd, ps, n + 2, M, ok.imp fun vs H Q E h2 => ?_, hb, Nat.le_refl _⟩
        obtain ⟨ds, S, Qa, Ea, rd, sr, w', q, qe⟩ := h2
        unfold lvl at w'
        dsimp only at w'
        rw [e] at w'
        exact ⟨ds, S, Qa, Ea, rd, sr, w', q, qe⟩
      · exact h.elim
end Mini
end L2
/-! Mini, part P: the law's end -/
namespace L2
namespace Mini
open PySem PySem.Spec PyProof.Rows
/-- what the law promises: True -/
def SpOut (K : PySem.W.Frag) : Sp := fun vs H Q _ => ∃ (a : Addr) (ns : List Int), vs = [.ref a] ∧ SqL K H a (ns.map V.int) ∧ ns.length ≤ 63 ∧ ∀ H', Q (.bl true) H'
/-- the written part holds no list -/
def noList (K : PySem.W.Frag) : Bool := K.all fun p => match p.2.cls with | .type t => t != "list" | _ => true
theorem lookup_mem {a : Addr} {o : Obj} : ∀ {K : PySem.W.Frag}, K.lookup a = some o → (a, o) ∈ K
  | [], h => by cases h
  | (b, u) :: r, h => by
    rw [List.lookup_cons] at h
    split at h
    · rename_i e
      cases h
      rw [beq_iff_eq.mp e]
      exact List.mem_cons_self
    · exact List.mem_cons_of_mem _ (lookup_mem h)
theorem noList_of {K : PySem.W.Frag} (h : noList K = true) {a : Addr} {o : Obj} (l : K.lookup a = some o) : o.cls ≠ .type "list" := fun e => by
  have q := List.all_eq_true.mp h _ (lookup_mem l)
  dsimp only at q
  rw [e] at q
  exact absurd q (by decide)
theorem sp_out {K : PySem.W.Frag} {Z : Nm} {G : Gam} {i : Nat} (nl : noList K = true) (pure : ∀ (S : Sto) (a : Addr) (ns : List Int), ns.length ≤ 63 → rd S a = some (ns.map D.int) → G.fn i [.ref a] S (fun d _ => d = .bl true) (fun _ _ => False))
    (vs : List V) (H : Hp) (Q : VK) (E : XK) (h : SpOut K vs H Q E) : LS Z (G.fn i) vs H Q E := by
  obtain ⟨a, ns, rfl, hS, hl, q⟩ := h
  have rds : ∀ l : List Int, RDs Z H (l.map D.int) (l.map V.int) := fun l => by
    induction l with
    | nil => exact .nil
    | cons n l ih => exact .cons .int ih
  have fin : ∀ c, rd (fun b => if b = a then some c else none) a = some (ns.map D.int) → CellAt Z H a c → LS Z (G.fn i) [.ref a] H Q E := fun c hr hc => by
    refine ⟨[.ref a], fun b => if b = a then some c else none, _, _, .cons .ref .nil, fun b d e => ?_, pure _ a ns hl hr, fun d v S' H' _ _ r e => ?_, fun _ _ _ _ _ _ _ _ z => z.elim⟩
    · dsimp only at e
      by_cases hb : b = a
      · subst hb
        rw [if_pos rfl] at e
        cases e
        exact hc
      · rw [if_neg hb] at e; cases e
    · subst e
      cases r
      exact q H'
  rcases hS with (h | ⟨o, h⟩) | ⟨o, its, n, h1, h2, _⟩
  · exact fin (.lst (ns.map D.int)) (by unfold rd; simp) ⟨_, h, rds ns⟩
  · exact fin (.fls (ns.map D.int)) (by unfold rd; simp) ⟨o, _, h, rds ns⟩
  · exact absurd h2 (noList_of nl h1)
theorem cx_false {P : Program} {w : World} {H : Hp} {s : Shared} {e : Value} {s' : Shared} (h : L2.CX P w [] H s (fun _ _ _ => False) e s') : False := by
  obtain ⟨_, _, _, _, _, _, _, _, _, _, _, _, z⟩ := h
  exact z
theorem walkM {l : PySem.W.OpenLaw} {j k : Nat} {q : Program} {loose : List Str} {XP : (Str → Option Value) → Heap → Prop} {YP : World → Heap → Prop} {d : DefRec} {K : Params → PySem.W.Frag} (hn : l.most = some 63) (hdf : d.params.defaults = []) (hr : Room k callerA) (hj : j + 9 ≤ 3 * k) (hk : 25 ≤ k)
    (hY : ∀ (w : World) (h : Heap), YP w h → (K w.params).In h)
    (F : ∀ (w : World) (mg : Str → Option Value) (fa : Addr) (h : Heap), (K w.params).In h → h.Ns mainGlobals mg → mg d.name = some (.ref fa) →
      ∃ fd : FuncData, (∀ (s : Shared) (u : Value), BindsTo s fd ⟨[u], []⟩ [("script", u)]) ∧ ∀ base : Heap, (K w.params).In base → base.Ns mainGlobals mg → FnR l.prog w (K w.params) mg base (L2.CX l.prog w) j fa fd ["script"] (SpOut (K w.params))) :
    PySem.W.WalkO q loose XP YP l.row.toRowW d [] (fun f vs => PySem.call f vs) :=
  L2.walk_of (n := 63) (k := k) (x := "script") (CX := fun w => L2.CX l.prog w) (sp := fun w => SpOut (K w.params)) hn (by decide) hdf hr hY (fun w mg fa h a b c => let ⟨fd, h1, h2⟩ := F w mg fa h a b c; ⟨fd, h1, fun base x y => (h2 base x y).top hj hk⟩) (fun _ _ a ns hl _ hS => ⟨a, ns, rfl, hS, hl, fun _ => rfl⟩) fun _ _ _ _ _ z => cx_false z
end Mini
end L2
/-! Mini, part Q: help for what is proved in the small language alone -/
namespace L2
namespace Mini
open PySem PySem.Spec PyProof.Rows
/-! ### a store that grows -/
def Sx (S S' : Sto) : Prop := ∀ a c, S a = some c → S' a = some c
theorem Sx.refl (S : Sto) : Sx S S := fun _ _ h => h
theorem Sx.trans {S S1 S2 : Sto} (a : Sx S S1) (b : Sx S1 S2) : Sx S S2 := fun c d h => b c d (a c d h)
theorem Sx.new {S : Sto} {p : Addr} {c : Cell} (n : S p = none) : Sx S (S.upd p c) := fun a d h => by
  by_cases e : a = p
  · subst e; rw [n] at h; cases h
  · rw [Sto.upd_ne e]; exact h
/-- all but the cell at p -/
def Sxb (p : Addr) (S S' : Sto) : Prop := ∀ a c, a ≠ p → S a = some c → S' a = some c
theorem Sx.b {S S' : Sto} {p : Addr} (h : Sx S S') : Sxb p S S' := fun a c _ q => h a c q
theorem Sxb.refl (p : Addr) (S : Sto) : Sxb p S S := fun _ _ _ h => h
theorem Sxb.trans {p : Addr} {S S1 S2 : Sto} (a : Sxb p S S1) (b : Sxb p S1 S2) : Sxb p S S2 := fun c d n h => b c d n (a c d n h)
theorem Sxb.put {p : Addr} {S : Sto} {c : Cell} : Sxb p S (S.upd p c) := fun a d n h => by rw [Sto.upd_ne n]; exact h
theorem Sxb.of_new {p : Addr} {S S' : Sto} (n : S p = none) (h : Sxb p S S') : Sx S S' := fun a c q => by
  by_cases e : a = p
  · subst e; rw [n] at q; cases q
  · exact h a c e q
theorem rd_sx {S S' : Sto} {a : Addr} {ds : List D} (h : Sx S S') (e : rd S a = some ds) : rd S' a = some ds := by
  unfold rd at e ⊢
  split at e
  · rename_i q; cases e; rw [h _ _ q]
  · rename_i q; cases e; rw [h _ _ q]
  · cases e
theorem rd_sxb {p a : Addr} {S S' : Sto} {ds : List D} (h : Sxb p S S') (n : a ≠ p) (e : rd S a = some ds) : rd S' a = some ds := by
  unfold rd at e ⊢
  split at e
  · rename_i q; cases e; rw [h _ _ n q]
  · rename_i q; cases e; rw [h _ _ n q]
  · cases e
theorem rd_lst {S : Sto} {a : Addr} {ds : List D} (h : S a = some (.lst ds)) : rd S a = some ds := by unfold rd; rw [h]
theorem new_ne {S : Sto} {a p : Addr} {c : Cell} (h : S a = some c) (n : S p = none) : a ≠ p := fun e => by rw [e, n] at h; cases h
theorem rd_upd {S : Sto} {p : Addr} {ds : List D} : rd (S.upd p (.lst ds)) p = some ds := by unfold rd; rw [Sto.upd_same]
/-! ### plain data: no addresses -/
mutual
def gd : D → Bool
  | .non => true
  | .bl _ => true
  | .int _ => true
  | .str l => l.all fun c => decide (c < 0x110000)
  | .tup ds => gds ds
  | .ref _ => false
  | .fn _ => false
def gds : List D → Bool
  | [] => true
  | d :: ds => gd d && gds ds
end
mutual
def pdo : D → PyData
  | .non => .none
  | .bl b => .bool b
  | .int i => .int i
  | .str l => .str (st l)
  | .tup ds => .tuple (pdos ds)
  | .ref _ => .none
  | .fn _ => .none
def pdos : List D → List PyData
  | [] => []
  | d :: ds => pdo d :: pdos ds
end
mutual
theorem pd_of (S : Sto) : ∀ {d : D}, gd d = true → PD S d (pdo d)
  | .non, _ => .non
  | .bl _, _ => .bl
  | .int _, _ => .int
  | .str l, h => .str (by simpa [gd] using h)
  | .tup ds, h => .tup (pds_of S (by simpa [gd] using h))
  | .ref _, h => by cases h
  | .fn _, h => by cases h
theorem pds_of (S : Sto) : ∀ {ds : List D}, gds ds = true → PDs S ds (pdos ds)
  | [], _ => .nil
  | d :: ds, h => by
    have h' : gd d = true ∧ gds ds = true := by simpa [gds] using h
    exact .cons (pd_of S h'.1) (pds_of S h'.2)
end
mutual
/-- the depth -/
def dd : D → Nat
  | .tup ds => dds ds + 1
  | _ => 0
def dds : List D → Nat
  | [] => 0
  | d :: ds => max (dd d) (dds ds)
end
mutual
theorem dd_pdo : ∀ d : D, (pdo d).depth = dd d
  | .non => rfl
  | .bl _ => rfl
  | .int _ => rfl
  | .str _ => rfl
  | .tup ds => by show PyData.depthAll (pdos ds) + 1 = dds ds + 1; rw [dds_pdo ds]
  | .ref _ => rfl
  | .fn _ => rfl
theorem dds_pdo : ∀ ds : List D, PyData.depthAll (pdos ds) = dds ds
  | [] => rfl
  | d :: ds => by show max (pdo d).depth (PyData.depthAll (pdos ds)) = max (dd d) (dds ds); rw [dd_pdo d, dds_pdo ds]
end
mutual
/-- equal as Python has it, of plain data -/
def deq : D → D → Bool
  | .non, .non => true
  | .bl a, .bl b => a == b
  | .bl a, .int j => (if a then 1 else 0) == j
  | .int i, .bl b => i == (if b then 1 else 0)
  | .int i, .int j => i == j
  | .str x, .str y => x == y
  | .tup xs, .tup ys => deqs xs ys
  | _, _ => false
def deqs : List D → List D → Bool
  | [], [] => true
  | x :: xs, y :: ys => deq x y && deqs xs ys
  | _, _ => false
end
theorem st_beq (x y : List Nat) : (st x == st y) = (x == y) := by
  by_cases e : x = y
  · subst e; simp
  · have : ¬ st x = st y := fun q => e (st_inj q)
    rw [beq_eq_false_iff_ne.mpr this, beq_eq_false_iff_ne.mpr e]
mutual
theorem deq_pdo : ∀ x y : D, gd x = true → gd y = true → PyData.eqv (pdo x) (pdo y) = deq x y
  | .tup xs, .tup ys, h, h2 => by
    show PyData.eqvAll (pdos xs) (pdos ys) = deqs xs ys
    exact deqs_pdo xs ys (by simpa [gd] using h) (by simpa [gd] using h2)
  | .str x, .str y, _, _ => st_beq x y
  | .bl a, .bl b, _, _ => rfl
  | .bl a, .int b, _, _ => rfl
  | .int a, .bl b, _, _ => rfl
  | .int a, .int b, _, _ => rfl
  | .non, y, _, h2 => by cases y <;> first | rfl | cases h2
  | .bl _, .non, _, _ => rfl
  | .bl _, .str _, _, _ => rfl
  | .bl _, .tup _, _, _ => rfl
  | .int _, .non, _, _ => rfl
  | .int _, .str _, _, _ => rfl
  | .int _, .tup _, _, _ => rfl
  | .str _, .non, _, _ => rfl
  | .str _, .bl _, _, _ => rfl
  | .str _, .int _, _, _ => rfl
  | .str _, .tup _, _, _ => rfl
  | .tup _, .non, _, _ => rfl
  | .tup _, .bl _, _, _ => rfl
  | .tup _, .int _, _, _ => rfl
  | .tup _, .str _, _, _ => rfl
  | .ref _, _, h, _ => by cases h
  | .fn _, _, h, _ => by cases h
  | _, .ref _, _, h => by cases h
  | _, .fn _, _, h => by cases h
theorem deqs_pdo : ∀ xs ys : List D, gds xs = true → gds ys = true → PyData.eqvAll (pdos xs) (pdos ys) = deqs xs ys
  | [], [], _, _ => rfl
  | [], _ :: _, _, _ => rfl
  | _ :: _, [], _, _ => rfl
  | x :: xs, y :: ys, h, h2 => by
    have h' : gd x = true ∧ gds xs = true := by simpa [gds] using h
    have h2' : gd y = true ∧ gds ys = true := by simpa [gds] using h2
    show (PyData.eqv (pdo x) (pdo y) && PyData.eqvAll (pdos xs) (pdos ys)) = (deq x y && deqs xs ys)
    rw [deq_pdo x y h'.1 h2'.1, deqs_pdo xs ys h'.2 h2'.2]
end
theorem eqv_of {S : Sto} {x y : D} (hx : gd x = true) (hy : gd y = true) (h : min (dd x) (dd y) ≤ 190) : Eqv S x y (deq x y) := by
  have e := Eqv.dat (pd_of S hx) (pd_of S hy) (show eqRoom (pdo x) (pdo y) by unfold eqRoom; rw [dd_pdo, dd_pdo]; exact h)
  rwa [deq_pdo x y hx hy] at e
/-- == of plain data -/
theorem eqW_of {S : Sto} {x y : D} {neg : Bool} {Q : QD} (hx : gd x = true) (hy : gd y = true) (h : min (dd x) (dd y) ≤ 190) (q : Q (.bl (neg ^^ deq x y)) S) : eqW x y neg S Q := by
  unfold eqW
  split
  · exact q
  · exact q
  · exact ⟨_, eqv_of hx hy h, q⟩
theorem eqW_t0 {S : Sto} {a : D} {ds : List D} {neg : Bool} {Q : QD} (hx : gd (.tup (a :: ds)) = true) (q : Q (.bl (neg ^^ false)) S) : eqW (.tup (a :: ds)) (.tup []) neg S Q :=
  eqW_of hx rfl (by simp [dd, dds]) q
/-- a list of plain data against [] -/
theorem eqW_nil {S : Sto} {a b : Addr} {ds : List D} {neg : Bool} {Q : QD} (h : rd S a = some ds) (g : gds ds = true) (h2 : rd S b = some []) (q : Q (.bl (neg ^^ ds.isEmpty)) S) : eqW (.ref a) (.ref b) neg S Q := by
  show ∃ r, Eqv S (.ref a) (.ref b) r ∧ Q (.bl (neg ^^ r)) S
  refine ⟨ds.isEmpty, ?_, q⟩
  have e := Eqv.dat (.ref h (pds_of S g)) (.ref h2 .nil) (show eqRoom (.list (pdos ds)) (.list []) by
    unfold eqRoom
    show min (PyData.depthAll (pdos ds) + 1) 1 ≤ 190
    omega)
  cases ds with
  | nil => exact e
  | cons d ds => exact e
/-! ### for the running of a text -/
theorem atI_0 {α : Type} {a : α} {r : List α} : atI (a :: r) 0 = some a := by
  unfold atI ixN
  rw [if_pos (by omega), if_pos (by simp only [List.length_cons]; omega)]
  rfl
theorem atI_1 {α : Type} {a b : α} {r : List α} : atI (a :: b :: r) 1 = some b := by
  unfold atI ixN
  rw [if_pos (by omega), if_pos (by simp only [List.length_cons]; omega)]
  rfl
theorem atI_2 {α : Type} {a b c : α} {r : List α} : atI (a :: b :: c :: r) 2 = some c := by
  unfold atI ixN
  rw [if_pos (by omega), if_pos (by simp only [List.length_cons]; omega)]
  rfl
theorem atI_nat {α : Type} {l : List α} {k : Nat} : atI l (k : Int) = l[k]? := by
  unfold atI
  by_cases h : k < l.length
  · unfold ixN
    rw [if_pos (by omega), if_pos (by omega)]
    rfl
  · unfold ixN
    rw [if_pos (by omega), if_neg (by omega), List.getElem?_eq_none (by omega)]
    rfl
theorem lb_nc {a : Nat} {l : List Nat} : (([] : List Nat) == a :: l) = false := rfl
theorem lb_cn {a : Nat} {l : List Nat} : (a :: l == ([] : List Nat)) = false := rfl
theorem lb_nn : (([] : List Nat) == []) = true := rfl
theorem lb_cc {a b : Nat} {l m : List Nat} : (a :: l == b :: m) = (a == b && l == m) := rfl
theorem ex_some {α : Type} {a : α} {P : α → Prop} : (∃ d, some a = some d ∧ P d) = P a := propext ⟨fun ⟨d, e, h⟩ => by cases e; exact h, fun h => ⟨a, rfl, h⟩⟩
theorem eqW_str {a b : List Nat} {neg : Bool} {S : Sto} {Q : QD} : eqW (.str a) (.str b) neg S Q = Q (.bl (neg ^^ (a == b))) S := rfl
theorem eqW_int {a b : Int} {neg : Bool} {S : Sto} {Q : QD} : eqW (.int a) (.int b) neg S Q = Q (.bl (neg ^^ (a == b))) S := rfl
theorem inW_chr {c : Nat} {b : List Nat} {neg : Bool} {S : Sto} {Q : QD} : inW (.str [c]) (.str b) neg S Q = Q (.bl (neg ^^ b.contains c)) S := rfl
theorem pdos_any {x : D} (hx : gd x = true) : ∀ ds : List D, gds ds = true → ((pdos ds).any fun q => PyData.eqv q (pdo x)) = ds.any fun d => deq d x
  | [], _ => rfl
  | d :: ds, h => by
    have h' : gd d = true ∧ gds ds = true := by simpa [gds] using h
    show (PyData.eqv (pdo d) (pdo x) || (pdos ds).any _) = (deq d x || ds.any _)
    rw [deq_pdo d x h'.1 hx, pdos_any hx ds h'.2]
theorem inL_of {S : Sto} {x : D} {ds : List D} (hx : gd x = true) (h : gds ds = true) (hd : dd x ≤ 180) : inW.InL S x ds (ds.any fun d => deq d x) :=
  ⟨pdo x, pdos ds, pd_of S hx, pds_of S h, by rw [dd_pdo]; exact hd, (pdos_any hx ds h).symm⟩
theorem inW_tup_eq {x : D} {ds : List D} {neg : Bool} {S : Sto} {Q : QD} : inW x (.tup ds) neg S Q = ∃ r, inW.InL S x ds r ∧ Q (.bl (neg ^^ r)) S := by
  cases x <;> try rfl
  rename_i l
  rcases l with _ | ⟨c, _ | ⟨d, r⟩⟩ <;> rfl
theorem inW_lst_eq {x : D} {a : Addr} {ds : List D} {neg : Bool} {S : Sto} {Q : QD} (e : rd S a = some ds) : inW x (.ref a) neg S Q = ∃ r, inW.InL S x ds r ∧ Q (.bl (neg ^^ r)) S := by
  have go : inW x (.ref a) neg S Q = (match S a with
    | some (.dct kvs) => (match x with
      | .int i => Q (.bl (neg ^^ (dget kvs (.inl i)).isSome)) S
      | .str l => Q (.bl (neg ^^ (dget kvs (.inr l)).isSome)) S
      | _ => False)
    | some (.lst ds) => ∃ r, inW.InL S x ds r ∧ Q (.bl (neg ^^ r)) S
    | some (.fls ds) => ∃ r, inW.InL S x ds r ∧ Q (.bl (neg ^^ r)) S
    | _ => False) := by
    cases x <;> try rfl
    rename_i l
    rcases l with _ | ⟨c, _ | ⟨d, r⟩⟩ <;> rfl
  rw [go]
  unfold rd at e
  split at e
  · rename_i q'; cases e; rw [q']
  · rename_i q'; cases e; rw [q']
  · cases e
/-- x in a tuple of plain data -/
theorem inW_tup {x : D} {ds : List D} {neg : Bool} {S : Sto} {Q : QD} (hx : gd x = true) (h : gds ds = true) (hd : dd x ≤ 180) (q : Q (.bl (neg ^^ ds.any fun d => deq d x)) S) : inW x (.tup ds) neg S Q := by
  rw [inW_tup_eq]
  exact ⟨_, inL_of hx h hd, q⟩
theorem inW_lst {x : D} {a : Addr} {ds : List D} {neg : Bool} {S : Sto} {Q : QD} (e : rd S a = some ds) (hx : gd x = true) (h : gds ds = true) (hd : dd x ≤ 180) (q : Q (.bl (neg ^^ ds.any fun d => deq d x)) S) : inW x (.ref a) neg S Q := by
  rw [inW_lst_eq e]
  exact ⟨_, inL_of hx h hd, q⟩
theorem sqW_t {ds : List D} {S : Sto} {R : List D → (Sto → Prop) → Prop} : sqW (.tup ds) S R = R ds (fun _ => True) := rfl
theorem sqW_s {l : List Nat} {S : Sto} {R : List D → (Sto → Prop) → Prop} : sqW (.str l) S R = (l.length ≤ sizeLine ∧ R (l.map fun c => D.str [c]) fun _ => True) := rfl
theorem sqW_r {a : Addr} {ds : List D} {S : Sto} {R : List D → (Sto → Prop) → Prop} (h : rd S a = some ds) (r : R ds (liveL a ds)) : sqW (.ref a) S R := by
  unfold rd at h
  unfold sqW
  dsimp only
  split at h
  · cases h; exact r
  · cases h; exact r
  · cases h
theorem binW_ai {i j : Int} {S : Sto} {Q : QD} : binW .add (.int i) (.int j) S Q = Q (.int (i + j)) S := rfl
theorem binW_si {i j : Int} {S : Sto} {Q : QD} : binW .sub (.int i) (.int j) S Q = Q (.int (i - j)) S := rfl
theorem binW_at {a b : List D} {S : Sto} {Q : QD} : binW .add (.tup a) (.tup b) S Q = (a.length + b.length ≤ sizeLine ∧ Q (.tup (a ++ b)) S) := rfl
theorem binW_as {a b : List Nat} {S : Sto} {Q : QD} : binW .add (.str a) (.str b) S Q = (a.length + b.length ≤ sizeLine ∧ Q (.str (a ++ b)) S) := rfl
theorem binW_mi {i j : Int} {S : Sto} {Q : QD} : binW .mul (.int i) (.int j) S Q = ((smallI i ∨ smallI j) ∧ Q (.int (i * j)) S) := rfl
theorem binW_ms {c : Nat} {k : Int} {S : Sto} {Q : QD} : binW .mul (.str [c]) (.int k) S Q = (0 ≤ k ∧ k ≤ 1000000 ∧ Q (.str (List.replicate k.toNat c)) S) := rfl
theorem binW_di {i j : Int} {S : Sto} {Q : QD} : binW .fdiv (.int i) (.int j) S Q = (j ≠ 0 ∧ j.natAbs < 1073741824 ∧ Q (.int (i.fdiv j)) S) := rfl
theorem binW_mo {i j : Int} {S : Sto} {Q : QD} : binW .mod (.int i) (.int j) S Q = (j ≠ 0 ∧ Q (.int (i.fmod j)) S) := rfl
theorem szl : 1000000 ≤ sizeLine := by rw [sizeLine_eq]; omega
theorem sz_le {n : Nat} (h : n ≤ 1000000) : (n ≤ sizeLine) = True := eq_true (Nat.le_trans h szl)
theorem sz_lt {n : Nat} (h : n < 1000000) : (n < sizeLine) = True := eq_true (Nat.lt_of_lt_of_le h szl)
theorem sz0 : (0 ≤ sizeLine) = True := sz_le (by omega)
theorem sz1 : (1 ≤ sizeLine) = True := sz_le (by omega)
theorem sz2 : (2 ≤ sizeLine) = True := sz_le (by omega)
theorem sz3 : (3 ≤ sizeLine) = True := sz_le (by omega)
theorem sz4 : (4 ≤ sizeLine) = True := sz_le (by omega)
theorem sz5 : (5 ≤ sizeLine) = True := sz_le (by omega)
theorem sz6 : (6 ≤ sizeLine) = True := sz_le (by omega)
theorem sz7 : (7 ≤ sizeLine) = True := sz_le (by omega)
theorem sz11 : (11 ≤ sizeLine) = True := sz_le (by omega)
/-- the comprehension that lists, all of it -/
theorem bi_all {S : Sto} {p : Addr} {bs : List Bool} {Q : QD} (h : rd S p = some (bs.map D.bl)) (q : Q (.bl (bs.all id)) S) : biW .all [.ref p] S Q := by
  have go : ∀ l : List Bool, blsOf (l.map D.bl) = some l := fun l => by
    induction l with
    | nil => rfl
    | cons b l ih => show (blsOf (l.map D.bl)).map (b :: ·) = _; rw [ih]; rfl
  exact ⟨_, bs, h, go bs, q⟩
theorem binW_ll {S : Sto} {a b : Addr} {xs ys : List D} {Q : QD} (h : S a = some (.lst xs)) (h2 : S b = some (.lst ys)) (hz : xs.length + ys.length ≤ 1000000) (q : ∀ p, S p = none → Q (.ref p) (S.upd p (.lst (xs ++ ys)))) : binW .add (.ref a) (.ref b) S Q :=
  ⟨xs, ys, h, h2, of_eq_true (sz_le hz), q⟩
/-! ### slices -/
theorem sIx_none {n d : Nat} : HT.sIx n d none = d := rfl
theorem sIx_nat {n d k : Nat} : HT.sIx n d (some (k : Int)) = min k n := by
  unfold HT.sIx
  dsimp only
  split <;> omega
theorem cut_from {α : Type} {xs : List α} {k : Nat} : cutD xs (some (k : Int)) none = xs.drop k := by
  unfold cutD
  rw [sIx_nat, sIx_none]
  by_cases h : k ≤ xs.length
  · rw [Nat.min_eq_left h, List.take_of_length_le (by rw [List.length_drop]; exact Nat.le_refl _)]
  · rw [Nat.min_eq_right (by omega), List.drop_eq_nil_of_le (Nat.le_refl _), List.drop_eq_nil_of_le (by omega), List.take_nil]
theorem cut_to {α : Type} {xs : List α} {k : Nat} : cutD xs none (some (k : Int)) = xs.take k := by
  unfold cutD
  rw [sIx_nat, sIx_none, List.drop_zero, Nat.sub_zero]
  by_cases h : k ≤ xs.length
  · rw [Nat.min_eq_left h]
  · rw [Nat.min_eq_right (by omega), List.take_of_length_le (Nat.le_refl _), List.take_of_length_le (by omega)]
theorem cut_mid {α : Type} {xs : List α} {k m : Nat} : cutD xs (some (k : Int)) (some (m : Int)) = (xs.take m).drop k := by
  unfold cutD
  rw [sIx_nat, sIx_nat]
  apply List.ext_getElem?
  intro i
  rw [List.getElem?_take, List.getElem?_drop, List.getElem?_drop, List.getElem?_take]
  by_cases h : k ≤ xs.length
  · rw [Nat.min_eq_left h]
    by_cases h1 : k + i < m
    · by_cases h2 : i < min m xs.length - k
      · rw [if_pos h2, if_pos h1]
      · rw [if_neg h2, if_pos h1, List.getElem?_eq_none (by omega)]
    · rw [if_neg h1, if_neg (by omega)]
  · rw [if_neg (by omega)]
    split
    · rw [List.getElem?_eq_none (by omega)]
    · rfl
theorem cut_1 {α : Type} {a : α} {xs : List α} : cutD (a :: xs) (some 1) none = xs := cut_from (xs := a :: xs) (k := 1)
/-! ### comprehensions, loops -/
/-- each item gives one (or none) -/
theorem goW_map {live : Sto → Prop} {turn : D → (Sto → Prop) → Sto → Prop} {p : Addr} {Q : Sto → Prop} {N : Nat} (f : D → Option D) (hl : ∀ S S', Sxb p S S' → live S → live S') :
    ∀ (ds : List D) (acc : List D) (S : Sto), acc.length + ds.length ≤ N → (∀ d, d ∈ ds → ∀ S1 acc K, Sxb p S S1 → S1 p = some (.lst acc) → acc.length < N → (∀ S', Sxb p S1 S' → S' p = some (.lst (acc ++ (f d).toList)) → K S') → turn d K S1) → S p = some (.lst acc) → live S →
      (∀ S', Sxb p S S' → S' p = some (.lst (acc ++ ds.filterMap f)) → live S' → Q S') → goW live turn ds S Q
  | [], acc, S, _, _, hp, lv, q => ⟨lv, q S (Sxb.refl p S) (by simpa using hp) lv⟩
  | d :: ds, acc, S, hN, ht, hp, lv, q => by
    simp only [List.length_cons] at hN
    refine ⟨lv, ht d List.mem_cons_self S acc _ (Sxb.refl p S) hp (by omega) fun S' x hp' => ?_⟩
    refine goW_map f hl ds _ S' ?_ (fun d' hd' S1 acc K x1 h1 hn k => ht d' (List.mem_cons_of_mem _ hd') S1 acc K (x.trans x1) h1 hn k) hp' (hl S S' x lv) fun S2 x2 h2 l2 => q S2 (x.trans x2) ?_ l2
    · rw [List.length_append]
      cases f d <;> simp <;> omega
    · rw [h2]
      rw [List.filterMap_cons]
      cases f d <;> simp
theorem bm_app {a : Addr} {ds : List D} {d : D} {S : Sto} {Q : QD} (h : S a = some (.lst ds)) (hz : ds.length < sizeLine) (q : Q .non (S.upd a (.lst (ds ++ [d])))) : bmW .append (.ref a) [d] S Q := by
  unfold bmW
  dsimp only
  rw [h]
  exact ⟨hz, q⟩
theorem bm_pop {a : Addr} {ds : List D} {d : D} {S : Sto} {Q : QD} (h : S a = some (.lst (ds ++ [d]))) (q : Q d (S.upd a (.lst ds))) : bmW .pop (.ref a) [] S Q := by
  unfold bmW
  dsimp only
  rw [h]
  refine ⟨d, by simp, ?_⟩
  rw [List.dropLast_concat]
  exact q
theorem snoc_cases {α : Type} (l : List α) : l = [] ∨ ∃ L b, l = L ++ [b] := by
  rcases List.eq_nil_or_concat l with h | ⟨L, b, h⟩
  · exact .inl h
  · exact .inr ⟨L, b, by rw [h, List.concat_eq_append]⟩
theorem forW_step {live : Sto → Prop} {t : Tg} {b : En → Env → Sto → Prop} {K : En} {d : D} {ds : List D} {σ σ' : Env} {S : Sto} (lv : live S) (e : tgW t d σ = some σ')
    (h : ∀ K' : En, (∀ σ2 S2, forW live t b K ds σ2 S2 → K'.nx σ2 S2) → (∀ σ2 S2, forW live t b K ds σ2 S2 → K'.ct σ2 S2) → (∀ d S2, K.rt d S2 → K'.rt d S2) → (∀ σ2 S2, K.nx σ2 S2 → K'.bk σ2 S2) → b K' σ' S) : forW live t b K (d :: ds) σ S := by
  refine ⟨lv, ?_⟩
  rw [e]
  exact h _ (fun _ _ h => h) (fun _ _ h => h) (fun _ _ h => h) (fun _ _ h => h)
/-! ### one statement after the other -/
section
variable {G : Gam} {ss : Stms} {K : En} {X : EX} {σ : Env} {S : Sto}
theorem st_nil (h : K.nx σ S) : wpSs G .nil K X σ S := h
theorem st_set {i : Nat} {e : Ex} (h : wpE G e σ S (fun d S1 => wpSs G ss K X (σ.set i (some d)) S1) (fun x S1 => X x σ S1)) : wpSs G (.cons (.set i e) ss) K X σ S := h
theorem st_unp {is : List Nat} {e : Ex} (h : wpE G e σ S (fun d S1 => match tgW (.tp is) d σ with | some σ' => wpSs G ss K X σ' S1 | none => False) (fun x S1 => X x σ S1)) : wpSs G (.cons (.unp is e) ss) K X σ S := h
theorem st_unpl {is : List Nat} {e : Ex} (h : wpE G e σ S (fun d S1 => match d with | .ref a => (match rd S1 a with | some ds => (match tgW (.tp is) (.tup ds) σ with | some σ' => wpSs G ss K X σ' S1 | none => False) | none => False) | _ => False) (fun x S1 => X x σ S1)) : wpSs G (.cons (.unpl is e) ss) K X σ S := h
theorem st_unpa {o o2 e : Ex} {f f2 : Nat} (h : wpE G e σ S (fun d S1 => match d with | .tup [a, b] => wpE G o σ S1 (fun x S2 => putatW x f a S2 (fun S3 => wpE G o2 σ S3 (fun y S4 => putatW y f2 b S4 (fun S5 => wpSs G ss K X σ S5)) (fun x S1 => X x σ S1))) (fun x S1 => X x σ S1) | _ => False) (fun x S1 => X x σ S1)) : wpSs G (.cons (.unpa o f o2 f2 e) ss) K X σ S := h
theorem st_setix {o i e : Ex} (h : wpE G e σ S (fun v S1 => wpE G o σ S1 (fun x S2 => wpE G i σ S2 (fun y S3 => setixW x y v S3 (fun S4 => wpSs G ss K X σ S4)) (fun x S1 => X x σ S1)) (fun x S1 => X x σ S1)) (fun x S1 => X x σ S1)) : wpSs G (.cons (.setix o i e) ss) K X σ S := h
theorem st_setat {o : Ex} {f : Nat} {e : Ex} (h : wpE G e σ S (fun v S1 => wpE G o σ S1 (fun x S2 => match x with | .ref p => (match S2 p with | some (.ins c fs) => fs.length < 1000 ∧ wpSs G ss K X σ (S2.upd p (.ins c (fput f v fs))) | _ => False) | _ => False) (fun x S1 => X x σ S1)) (fun x S1 => X x σ S1)) : wpSs G (.cons (.setat o f e) ss) K X σ S := h
theorem st_aug {i : Nat} {op : Bop} {e : Ex} (h : match σ.get i with | some x => wpE G e σ S (fun y S1 => augW op x y S1 (fun z S2 => wpSs G ss K X (σ.set i (some z)) S2)) (fun x S1 => X x σ S1) | none => False) : wpSs G (.cons (.aug i op e) ss) K X σ S := h
theorem st_augat {o : Ex} {f : Nat} {op : Bop} {e : Ex} (h : wpE G o σ S (fun x S1 => match x with | .ref p => (match S1 p with | some (.ins c fs) => (match fget fs f with | some d => wpE G e σ S1 (fun y S2 => augW op d y S2 (fun z S3 => (match S3 p with | some (.ins c' fs') => c' = c ∧ fs'.length < 1000 ∧ wpSs G ss K X σ (S3.upd p (.ins c' (fput f z fs'))) | _ => False))) (fun x S1 => X x σ S1) | none => False) | _ => False) | _ => False) (fun x S1 => X x σ S1)) :
    wpSs G (.cons (.augat o f op e) ss) K X σ S := h
theorem st_ife {c : Ex} {a b : Stms} (h : wpT G c σ S (fun r S1 => if r = true then wpSs G a { K with nx := fun σ' S' => wpSs G ss K X σ' S' } X σ S1 else wpSs G b { K with nx := fun σ' S' => wpSs G ss K X σ' S' } X σ S1) (fun x S1 => X x σ S1)) : wpSs G (.cons (.ife c a b) ss) K X σ S := h
theorem st_whl {c : Ex} {b : Stms} (h : whlW (fun σ S Q => wpT G c σ S Q (fun x S1 => X x σ S1)) (fun K σ S => wpSs G b K X σ S) { K with nx := fun σ' S' => wpSs G ss K X σ' S' } σ S) : wpSs G (.cons (.whl c b) ss) K X σ S := h
theorem st_for {t : Tg} {it : Itr} {b : Stms} (h : wpI G it σ S (fun ds live S1 => forW live t (fun K σ S => wpSs G b K X σ S) { K with nx := fun σ' S' => wpSs G ss K X σ' S' } ds σ S1) (fun x S1 => X x σ S1)) : wpSs G (.cons (.for_ t it b) ss) K X σ S := h
theorem st_ret {e : Ex} (h : wpE G e σ S K.rt (fun x S1 => X x σ S1)) : wpSs G (.cons (.ret e) ss) K X σ S := h
theorem st_brk (h : K.bk σ S) : wpSs G (.cons .brk ss) K X σ S := h
theorem st_cnt (h : K.ct σ S) : wpSs G (.cons .cnt ss) K X σ S := h
theorem st_pass (h : wpSs G ss K X σ S) : wpSs G (.cons .pass ss) K X σ S := h
theorem st_ex {e : Ex} (h : wpE G e σ S (fun _ S1 => wpSs G ss K X σ S1) (fun x S1 => X x σ S1)) : wpSs G (.cons (.ex e) ss) K X σ S := h
theorem st_raise {c : Nat} {es : Exs} (h : wpEs G es σ S (fun ds S1 => ds.length = (G.xfl c).length ∧ X ⟨c, ((G.xfl c).zip ds).reverse⟩ σ S1) (fun x S1 => X x σ S1)) : wpSs G (.cons (.raise c es) ss) K X σ S := h
theorem st_try {b : Stms} {hs : List (Nat × Su)} (h : wpSs G b { K with nx := fun σ' S' => wpSs G ss K X σ' S' } (fun x σ' S' => tryW G hs x { K with nx := fun σ' S' => wpSs G ss K X σ' S' } X σ' S') σ S) : wpSs G (.cons (.try_ b hs) ss) K X σ S := h
end
end Mini
end L2
/-! Mini, part R: the tape, lists that are made one by one -/
namespace L2
namespace Mini
open PySem PySem.Spec PyProof.Rows
theorem Sx.none_at {S S' : Sto} (h : Sx S S') {p : Addr} (n : S' p = none) : S p = none := by
  cases e : S p with
  | none => rfl
  | some c => rw [h p c e] at n; cases n
abbrev sFar : D := .str [102, 97, 114]
abbrev sTrm : D := .str [116, 101, 114, 109]
theorem sz8 : (8 ≤ sizeLine) = True := sz_le (by omega)
theorem sz9 : (9 ≤ sizeLine) = True := sz_le (by omega)
theorem sz10 : (10 ≤ sizeLine) = True := sz_le (by omega)
theorem sz12 : (12 ≤ sizeLine) = True := sz_le (by omega)
theorem sz13 : (13 ≤ sizeLine) = True := sz_le (by omega)
theorem sz14 : (14 ≤ sizeLine) = True := sz_le (by omega)
theorem sz15 : (15 ≤ sizeLine) = True := sz_le (by omega)
theorem sz16 : (16 ≤ sizeLine) = True := sz_le (by omega)
theorem sz17 : (17 ≤ sizeLine) = True := sz_le (by omega)
theorem sz18 : (18 ≤ sizeLine) = True := sz_le (by omega)
theorem sz19 : (19 ≤ sizeLine) = True := sz_le (by omega)
theorem sz20 : (20 ≤ sizeLine) = True := sz_le (by omega)
structure Tp (t c : Addr) (S : Sto) : Prop where
  ne : c ≠ t
  at_ : ∃ s : Int, S t = some (.lst [.ref c, .int s])
  cs : ∃ l : List Int, S c = some (.lst (l.map D.int))
/-- all but the tape -/
def Sd (t c : Addr) (S S' : Sto) : Prop := ∀ a d, a ≠ t → a ≠ c → S a = some d → S' a = some d
theorem Sd.refl (t c : Addr) (S : Sto) : Sd t c S S := fun _ _ _ _ h => h
theorem Sd.trans {t c : Addr} {S S1 S2 : Sto} (a : Sd t c S S1) (b : Sd t c S1 S2) : Sd t c S S2 := fun x d h1 h2 h => b x d h1 h2 (a x d h1 h2 h)
theorem Sx.d {S S' : Sto} (h : Sx S S') (t c : Addr) : Sd t c S S' := fun a d _ _ q => h a d q
theorem Tp.sx {t c : Addr} {S S' : Sto} (h : Tp t c S) (x : Sx S S') : Tp t c S' := ⟨h.ne, let ⟨s, e⟩ := h.at_; ⟨s, x _ _ e⟩, let ⟨l, e⟩ := h.cs; ⟨l, x _ _ e⟩⟩
theorem fmod_lt {i m : Int} (h : 0 < m) : 0 ≤ i.fmod m ∧ i.fmod m < m := ⟨Int.fmod_nonneg_of_pos i h, Int.fmod_lt_of_pos i h⟩
theorem ixN_0 {n : Nat} (h : 0 < n) : ixN n 0 = some 0 := by
  unfold ixN
  rw [if_pos (by omega), if_pos (by omega)]
  rfl
def forBody : Stms → Stms
  | .cons (.for_ _ _ b) _ => b
  | .cons _ r => forBody r
  | .nil => .nil
mutual
def pl : D → Bool
  | .int _ => true
  | .str l => l.all fun c => decide (c < 0x110000)
  | .tup ds => decide (ds.length ≤ 1000) && pls ds
  | _ => false
def pls : List D → Bool
  | [] => true
  | d :: ds => pl d && pls ds
end
theorem pls_get : ∀ {ds : List D} {k : Nat} {d : D}, pls ds = true → ds[k]? = some d → pl d = true ∧ dd d ≤ dds ds
  | [], _, _, _, e => by simp at e
  | a :: ds, 0, d, h, e => by
    cases e
    simp only [pls, Bool.and_eq_true] at h
    exact ⟨h.1, by simp only [dds]; omega⟩
  | a :: ds, k + 1, d, h, e => by
    simp only [pls, Bool.and_eq_true] at h
    have := pls_get h.2 (by simpa using e)
    exact ⟨this.1, by simp only [dds]; omega⟩
theorem trues_gd : ∀ n, gds (List.replicate n (D.bl true)) = true
  | 0 => rfl
  | n + 1 => by rw [List.replicate_succ]; simp [gds, gd, trues_gd n]
theorem trues_any : ∀ n, (List.replicate n (D.bl true)).any (fun d => deq d (.bl false)) = false
  | 0 => rfl
  | n + 1 => by rw [List.replicate_succ, List.any_cons, trues_any n]; rfl
theorem fm_true {α : Type} : ∀ l : List α, l.filterMap (fun _ => some (D.bl true)) = List.replicate l.length (D.bl true)
  | [] => rfl
  | a :: l => by rw [List.filterMap_cons, fm_true l]; rfl
theorem new_tp {t c p : Addr} {S : Sto} (h : Tp t c S) (hp : S p = none) : p ≠ t ∧ p ≠ c := by
  obtain ⟨s, es⟩ := h.at_
  obtain ⟨l, el⟩ := h.cs
  exact ⟨fun e => (by rw [← e, hp] at es; cases es), fun e => (by rw [← e, hp] at el; cases el)⟩
def Sxm (p l : Addr) (S S' : Sto) : Prop := ∀ a d, a ≠ p → a ≠ l → S a = some d → S' a = some d
theorem Sxm.refl (p l : Addr) (S : Sto) : Sxm p l S S := fun _ _ _ _ h => h
theorem Sxm.trans {p l : Addr} {S S1 S2 : Sto} (a : Sxm p l S S1) (b : Sxm p l S1 S2) : Sxm p l S S2 := fun x d h1 h2 h => b x d h1 h2 (a x d h1 h2 h)
theorem sxm_put {p l : Addr} {S : Sto} {c : Cell} : Sxm p l S (S.upd p c) := fun x d h1 _ hd => by rw [Sto.upd_ne h1]; exact hd
theorem fresh_sx {p l : Addr} {S S1 S2 : Sto} (x : Sx S S1) (y : Sxm p l S1 S2) (hp : S p = none) (hl : S l = none) : Sx S S2 := fun a d h =>
  y a d (fun e => by rw [e, hp] at h; cases h) (fun e => by rw [e, hl] at h; cases h) (x a d h)
/-- machine_at -/
theorem goW_inv {live : Sto → Prop} {turn : D → (Sto → Prop) → Sto → Prop} {Q : Sto → Prop} (I : List D → Sto → Prop) (ht : ∀ d ds S K, I (d :: ds) S → (∀ S', I ds S' → K S') → turn d K S) (hl : ∀ ds S, I ds S → live S) (hq : ∀ S, I [] S → Q S) :
    ∀ (ds : List D) (S : Sto), I ds S → goW live turn ds S Q
  | [], S, h => ⟨hl _ _ h, hq S h⟩
  | d :: ds, S, h => ⟨hl _ _ h, ht d ds S _ h fun S' h' => goW_inv I ht hl hq ds S' h'⟩
theorem Tp.new {t c p : Addr} {S : Sto} {x : Cell} (h : Tp t c S) (hp : S p = none) : Tp t c (S.upd p x) := h.sx (Sx.new hp)
theorem Tp.put {t c p : Addr} {S : Sto} {x : Cell} (h : Tp t c S) (h1 : p ≠ t) (h2 : p ≠ c) : Tp t c (S.upd p x) := ⟨h.ne, let ⟨s, e⟩ := h.at_; ⟨s, by rw [Sto.upd_ne (Ne.symm h1)]; exact e⟩, let ⟨l, e⟩ := h.cs; ⟨l, by rw [Sto.upd_ne (Ne.symm h2)]; exact e⟩⟩
theorem Sd.fresh {t c p : Addr} {S S1 : Sto} {x : Cell} (h : Sd t c S S1) (hp : S1 p = none) : Sd t c S (S1.upd p x) := h.trans (Sx.d (Sx.new hp) t c)
theorem Sd.over {t c p : Addr} {S S1 : Sto} {x : Cell} (h : Sd t c S S1) (hp : S p = none) : Sd t c S (S1.upd p x) := fun a d h1 h2 hd => by
  have ne : a ≠ p := new_ne hd hp
  rw [Sto.upd_ne ne]; exact h a d h1 h2 hd
theorem Sd.none_of {t c p : Addr} {S S1 : Sto} (h : Sd t c S S1) (h1 : p ≠ t) (h2 : p ≠ c) (hp : S1 p = none) : S p = none := by
  cases e : S p with
  | none => rfl
  | some x => rw [h p x h1 h2 e] at hp; cases hp
theorem pdos_get : ∀ (ds : List D) (j : Nat), (pdos ds)[j]? = (ds[j]?).map pdo
  | [], j => by simp [pdos]
  | d :: ds, 0 => by simp [pdos]
  | d :: ds, j + 1 => by simpa [pdos] using pdos_get ds j
theorem gds_get : ∀ {ds : List D} {j : Nat} {d : D}, gds ds = true → ds[j]? = some d → gd d = true
  | [], _, _, _, e => by simp at e
  | a :: ds, 0, d, h, e => by cases e; simp only [gds, Bool.and_eq_true] at h; exact h.1
  | a :: ds, j + 1, d, h, e => by simp only [gds, Bool.and_eq_true] at h; exact gds_get h.2 (by simpa using e)
/-- list.index of plain data -/
theorem bm_index {a : Addr} {ds : List D} {y d : D} {j : Nat} {S : Sto} {Q : QD} (h : S a = some (.lst ds)) (hy : gd y = true) (hd : gds ds = true) (d1 : dd y ≤ 60) (d2 : dds ds ≤ 60) (hj : ds[j]? = some d) (e : deq d y = true) (hno : ∀ m d', m < j → ds[m]? = some d' → deq d' y = false) (q : Q (.int (j : Nat)) S) : bmW .index (.ref a) [y] S Q := by
  unfold bmW
  dsimp only
  rw [h]
  refine ⟨pdo y, pdos ds, j, pdo d, pd_of S hy, pds_of S hd, by rw [dd_pdo]; exact d1, by rw [dds_pdo]; exact d2, by rw [pdos_get, hj]; rfl, by rw [deq_pdo d y (gds_get hd hj) hy]; exact e, fun m z' hm hz => ?_, q⟩
  rw [pdos_get] at hz
  cases hq : ds[m]? with
  | none => rw [hq] at hz; cases hz
  | some d' => rw [hq] at hz; cases hz; rw [deq_pdo d' y (gds_get hd hq) hy]; exact hno m d' hm hq
/-! ### dicts with numbers as keys -/
def dN (kv : List (Nat × D)) : List (Ky × D) := kv.map fun p => (Sum.inl (p.1 : Int), p.2)
def kget {α : Type} (kv : List (Nat × α)) (n : Nat) : Option α := (kv.find? fun p => decide (p.1 = n)).map (·.2)
theorem inl_iff {a b : Nat} : ((Sum.inl (a : Int) : Ky) = Sum.inl (b : Int)) ↔ a = b := ⟨fun h => by injection h with h; exact Int.ofNat.inj h, fun h => by rw [h]⟩
theorem dget_N (kv : List (Nat × D)) (n : Nat) : dget (dN kv) (.inl (n : Int)) = kget kv n := by
  induction kv with
  | nil => rfl
  | cons p kv ih =>
    unfold dget kget dN at *
    simp only [List.map_cons, List.find?_cons]
    by_cases h : p.1 = n
    · subst h; simp
    · have h2 : ¬ (Sum.inl (p.1 : Int) : Ky) = Sum.inl (n : Int) := fun e => h (inl_iff.mp e)
      simp only [h, h2, decide_false]
      exact ih
theorem kget_none {α : Type} {kv : List (Nat × α)} {n : Nat} : kget kv n = none ↔ n ∉ kv.map (·.1) := by
  unfold kget
  rw [Option.map_eq_none_iff, List.find?_eq_none]
  simp only [List.mem_map, decide_eq_true_eq]
  exact ⟨fun h ⟨p, hp, e⟩ => h p hp e, fun h p hp e => h ⟨p, hp, e⟩⟩
theorem kget_mem {α : Type} {kv : List (Nat × α)} {n : Nat} {d : α} (h : kget kv n = some d) : (n, d) ∈ kv := by
  unfold kget at h
  rw [Option.map_eq_some_iff] at h
  obtain ⟨p, hp, rfl⟩ := h
  have := List.find?_some hp
  rw [decide_eq_true_eq] at this
  rw [← this]
  exact List.mem_of_find?_eq_some hp
theorem kget_snoc {α : Type} {kv : List (Nat × α)} {n m : Nat} {d : α} (h : n ∉ kv.map (·.1)) : kget (kv ++ [(n, d)]) m = if m = n then some d else kget kv m := by
  unfold kget
  rw [List.find?_append]
  by_cases e : m = n
  · subst e
    have : kv.find? (fun p => decide (p.1 = m)) = none := by
      rw [List.find?_eq_none]
      intro p hp
      simp only [decide_eq_true_eq]
      exact fun q => h (List.mem_map.mpr ⟨p, hp, q⟩)
    rw [this]
    simp
  · rw [if_neg e]
    cases q : kv.find? (fun p => decide (p.1 = m)) with
    | none =>
      have : ¬ n = m := fun z => e z.symm
      simp [this]
    | some p => simp
theorem dput_new {kv : List (Nat × D)} {n : Nat} {d : D} (h : n ∉ kv.map (·.1)) : dput (dN kv) (.inl (n : Int)) d = dN (kv ++ [(n, d)]) := by
  unfold dput
  have : ((dN kv).any fun p => decide (p.1 = Sum.inl (n : Int))) = false := by
    rw [List.any_eq_false]
    intro p hp
    unfold dN at hp
    obtain ⟨q, hq, rfl⟩ := List.mem_map.mp hp
    simp only [decide_eq_true_eq]
    exact fun e => h (List.mem_map.mpr ⟨q, hq, inl_iff.mp e⟩)
  rw [if_neg (by rw [this]; exact Bool.false_ne_true)]
  simp [dN]
/-- the key is there: its value is another one -/
theorem dput_old {kv : List (Nat × D)} {n : Nat} {d : D} (h : n ∈ kv.map (·.1)) : dput (dN kv) (.inl (n : Int)) d = dN (kv.map fun p => if p.1 = n then (p.1, d) else p) := by
  unfold dput
  have : ((dN kv).any fun p => decide (p.1 = Sum.inl (n : Int))) = true := by
    rw [List.any_eq_true]
    obtain ⟨p, hp, e⟩ := List.mem_map.mp h
    exact ⟨(Sum.inl (p.1 : Int), p.2), List.mem_map.mpr ⟨p, hp, rfl⟩, by simp only [decide_eq_true_eq]; rw [e]⟩
  rw [if_pos this]
  simp only [dN, List.map_map]
  refine List.map_congr_left fun p _ => ?_
  simp only [Function.comp]
  by_cases e : p.1 = n
  · rw [if_pos e, if_pos (inl_iff.mpr e)]
  · rw [if_neg e, if_neg fun z => e (inl_iff.mp z)]
/-- distinct numbers below N are no more than N -/
theorem nodup_len : ∀ (N : Nat) (l : List Nat), l.Nodup → (∀ x ∈ l, x < N) → l.length ≤ N
  | 0, [], _, _ => Nat.le_refl _
  | 0, x :: l, _, h => absurd (h x List.mem_cons_self) (Nat.not_lt_zero _)
  | N + 1, l, hn, h => by
    by_cases hm : N ∈ l
    · have h1 := nodup_len N (l.erase N) (hn.erase N) fun x hx => by
        have := (List.Nodup.mem_erase_iff hn).mp hx
        have h2 := h x this.2
        have h3 := this.1
        omega
      rw [List.length_erase_of_mem hm] at h1
      omega
    · have := nodup_len N l hn fun x hx => by
        have h2 := h x hx
        have h3 : x ≠ N := fun e => hm (by rw [← e]; exact hx)
        omega
      omega
end Mini
end L2
/-! Mini, part T: terms -/
namespace L2
namespace Mini
open PySem PySem.Spec PyProof.Rows
inductive Tm where | av (n : Nat) | nm (l : List Nat) | fn (t : Tm) | cl (t u : Tm)
abbrev sAt : D := .str [97, 116]
abbrev sNm : D := .str [110, 97, 109, 101]
abbrev sFn : D := .str [102, 117, 110]
abbrev sCl : D := .str [99, 97, 108, 108]
def enc : Tm → D
  | .av n => .tup [sAt, .int n]
  | .nm l => .tup [sNm, .str l]
  | .fn t => .tup [sFn, enc t]
  | .cl t u => .tup [sCl, enc t, enc u]
def sz : Tm → Nat
  | .av _ => 1
  | .nm _ => 1
  | .fn t => sz t + 1
  | .cl t u => sz t + sz u + 1
def dp : Tm → Nat
  | .av _ => 1
  | .nm _ => 1
  | .fn t => dp t + 1
  | .cl t u => max (dp t) (dp u) + 1
def low (c : Nat) : Bool := decide (97 ≤ c) && decide (c ≤ 122)
def dig (c : Nat) : Bool := decide (48 ≤ c) && decide (c ≤ 57)
/-- a name: of one to twelve signs, no word of the grammar -/
def nameB (l : List Nat) : Bool := decide (1 ≤ l.length) && decide (l.length ≤ 12) && !(l == [108, 101, 116]) && !(l == [105, 110]) && (match l with | a :: r => low a && r.all (fun c => low c || dig c) | [] => false)
theorem nameB_lt {l : List Nat} (h : nameB l = true) : l.all (fun c => decide (c < 0x110000)) = true := by
  cases l with
  | nil => cases h
  | cons a r =>
    simp only [nameB, Bool.and_eq_true, low, dig, Bool.or_eq_true, decide_eq_true_eq, List.all_eq_true] at h
    simp only [List.all_eq_true, List.mem_cons, decide_eq_true_eq]
    rintro c (rfl | hc)
    · have := h.2.1; omega
    · have := h.2.2 c hc; omega
theorem nameB_len {l : List Nat} (h : nameB l = true) : l.length ≤ 1000000 := by
  simp only [nameB, Bool.and_eq_true, decide_eq_true_eq] at h
  have := h.1.1.1.2
  omega
def good : Tm → Bool
  | .av _ => true
  | .nm l => nameB l
  | .fn t => good t
  | .cl t u => good t && good u
theorem enc_gd : ∀ t : Tm, good t = true → gd (enc t) = true
  | .av _, _ => rfl
  | .nm l, h => by
    have := nameB_lt (l := l) (by simpa [good] using h)
    simp only [enc, gd, gds] at *
    simp [this]
  | .fn t, h => by
    have := enc_gd t h
    simp [enc, gd, gds, this]
  | .cl t u, h => by
    simp only [good, Bool.and_eq_true] at h
    have h1 := enc_gd t h.1
    have h2 := enc_gd u h.2
    simp [enc, gd, gds, h1, h2]
theorem sz_pos (t : Tm) : 1 ≤ sz t := by cases t <;> simp [sz]
theorem dp_pos (t : Tm) : 1 ≤ dp t := by cases t <;> simp [dp]
theorem enc_tup (t : Tm) : ∃ a ds, enc t = .tup (a :: ds) := by cases t <;> exact ⟨_, _, rfl⟩
/-- closed within a functions -/
def clo : Nat → Tm → Bool
  | a, .av n => decide (n < a)
  | _, .nm _ => true
  | a, .fn t => clo (a + 1) t
  | a, .cl t u => clo a t && clo a u
/-- what is built -/
def fi : Tm → Nat
  | .av _ => 0
  | .nm _ => 0
  | .fn t => fi t + 1
  | .cl t u => fi t + fi u + 1
theorem fi_sz : ∀ t, sz t ≤ 2 * fi t + 1
  | .av _ => by simp [sz]
  | .nm _ => by simp [sz]
  | .fn t => by have := fi_sz t; simp only [sz, fi]; omega
  | .cl t u => by have := fi_sz t; have := fi_sz u; simp only [sz, fi]; omega
theorem fi_dp : ∀ t, dp t ≤ fi t + 1
  | .av _ => by simp [dp]
  | .nm _ => by simp [dp]
  | .fn t => by have := fi_dp t; simp only [dp, fi]; omega
  | .cl t u => by have := fi_dp t; have := fi_dp u; simp only [dp, fi]; omega
theorem enc_pl : ∀ t : Tm, good t = true → pl (enc t) = true
  | .av _, _ => rfl
  | .nm l, h => by
    have := nameB_lt (l := l) (by simpa [good] using h)
    simp only [enc, pl, pls] at *
    simp [this]
  | .fn t, h => by
    have := enc_pl t h
    simp [enc, pl, pls, this]
  | .cl t u, h => by
    simp only [good, Bool.and_eq_true] at h
    have h1 := enc_pl t h.1
    have h2 := enc_pl u h.2
    simp [enc, pl, pls, h1, h2]
theorem enc_dd : ∀ t : Tm, dd (enc t) ≤ dp t
  | .av _ => by simp [enc, dd, dds, dp]
  | .nm _ => by simp [enc, dd, dds, dp]
  | .fn t => by have := enc_dd t; simp only [enc, dd, dds, dp]; omega
  | .cl t u => by have := enc_dd t; have := enc_dd u; simp only [enc, dd, dds, dp]; omega
def fns : Nat → Tm → Tm
  | 0, t => t
  | k + 1, t => fns k (.fn t)
def cls : Tm → List Tm → Tm
  | h, [] => h
  | h, a :: l => cls (.cl h a) l
def num : Nat → Tm → Tm
  | 0, t => t
  | k + 1, t => num k (.cl (.av 1) t)
def knB (u : Tm) : Bool := good u && clo 0 u && decide (dp u ≤ 9) && decide (sz u ≤ 20)
theorem knB_num : ∀ k, k < 4 → knB (.fn (.fn (num k (.av 0)))) = true := by decide
/-- the greatest body -/
def fm : Tm → Nat
  | .av _ => 0
  | .nm _ => 0
  | .fn t => sz t
  | .cl t u => max (fm t) (fm u)
theorem fm_sz : ∀ t, fm t ≤ sz t
  | .av _ => by simp [fm]
  | .nm _ => by simp [fm]
  | .fn t => by simp only [fm, sz]; omega
  | .cl t u => by have := fm_sz t; have := fm_sz u; simp only [fm, sz]; omega
/-- what is drawn: closed, of a size, of a depth, of small bodies -/
structure Tt (a b : Nat) (u : Tm) : Prop where
  g : good u = true
  c : clo 0 u = true
  d : dp u ≤ a
  z : sz u ≤ b
  f : fm u ≤ 2 * a + 2
theorem Tt.mono {a b a' b' : Nat} {u : Tm} (h : Tt a b u) (ha : a ≤ a') (hb : b ≤ b') : Tt a' b' u := ⟨h.g, h.c, Nat.le_trans h.d ha, Nat.le_trans h.z hb, by have := h.f; omega⟩
theorem Tt.of_kn {u : Tm} (h : knB u = true) : Tt 9 20 u := by
  simp only [knB, Bool.and_eq_true, decide_eq_true_eq] at h
  have := fm_sz u
  exact ⟨h.1.1.1, h.1.1.2, h.1.2, h.2, by omega⟩
theorem Tt.of_fi {u : Tm} {k : Nat} (g : good u = true) (c : clo 0 u = true) (f : fi u + 1 ≤ k) : Tt k (2 * k) u := by
  have h1 := fi_dp u
  have h2 := fi_sz u
  have h3 := fm_sz u
  exact ⟨g, c, by omega, by omega, by omega⟩
theorem Tt.cls {a b : Nat} : ∀ {l : List Tm} {h : Tm} {a' b' : Nat}, Tt a' b' h → a ≤ a' → (∀ u ∈ l, Tt a b u) → Tt (a' + l.length) (b' + l.length * (b + 1)) (cls h l)
  | [], h, a', b', th, _, _ => by simpa [Mini.cls] using th
  | u :: l, h, a', b', th, ha, hu => by
    have tu := hu u List.mem_cons_self
    have t1 : Tt (a' + 1) (b' + (b + 1)) (.cl h u) := by
      have h1 := th.d
      have h2 := tu.d
      have h3 := th.z
      have h4 := tu.z
      have h5 := th.f
      have h6 := tu.f
      exact ⟨by simp [good, th.g, tu.g], by simp [clo, th.c, tu.c], by simp only [dp]; omega, by simp only [sz]; omega, by simp only [fm]; omega⟩
    have := Tt.cls (l := l) t1 (by omega) fun v hv => hu v (List.mem_cons_of_mem _ hv)
    refine this.mono (by simp only [List.length_cons]; omega) ?_
    simp only [List.length_cons, Nat.add_mul, Nat.one_mul]
    omega
/-- what a comprehension of drawn terms makes -/
structure Li (t c p : Addr) (k : Nat) (P : Tm → Prop) (S0 : Sto) (ds : List D) (S : Sto) : Prop where
  tp : Tp t c S
  x : Sd t c S0 S
  l : ∃ us : List Tm, S p = some (.lst (us.map enc)) ∧ (∀ u ∈ us, P u) ∧ us.length + ds.length = k
theorem Li.push {t c p : Addr} {k : Nat} {P : Tm → Prop} {S0 S S' : Sto} {d : D} {ds : List D} {u : Tm} (h : Li t c p k P S0 (d :: ds) S) (h1 : p ≠ t) (h2 : p ≠ c) (hp : S0 p = none) (hk : k < 1000) (tp : Tp t c S') (x : Sd t c S S') (hu : P u) :
    ∃ acc, S' p = some (.lst acc) ∧ acc.length < sizeLine ∧ Li t c p k P S0 ds (S'.upd p (.lst (acc ++ [enc u]))) := by
  obtain ⟨us, e, ha, hl⟩ := h.l
  simp only [List.length_cons] at hl
  refine ⟨us.map enc, x _ _ h1 h2 e, of_eq_true (sz_lt (by rw [List.length_map]; omega)), tp.put h1 h2, (h.x.trans x).over hp, us ++ [u], by rw [Sto.upd_same]; simp, fun v hv => ?_, by simp only [List.length_append, List.length_cons, List.length_nil]; omega⟩
  rcases List.mem_append.mp hv with hv | hv
  · exact ha v hv
  · rw [List.mem_singleton.mp hv]; exact hu
/-- a term is no text -/
theorem eqW_enc_str {t : Tm} {l : List Nat} {neg : Bool} {S : Sto} {Q : QD} (hg : good t = true) (hl : l.all (fun c => decide (c < 0x110000)) = true) (q : Q (.bl (neg ^^ false)) S) : eqW (enc t) (.str l) neg S Q := by
  have e : deq (enc t) (.str l) = false := by cases t <;> rfl
  refine eqW_of (enc_gd t hg) (by simpa [gd] using hl) (Nat.le_trans (Nat.min_le_right _ _) (Nat.zero_le 190)) ?_
  rw [e]
  exact q
end Mini
end L2
/-! the program of k42_terms_without_variables, printed by gen.py: its text by places, in the small language, the rules that it is by -/
namespace L2
namespace Mini
namespace K42
open PySem PySem.Spec PyProof.Rows
def top (i : Nat) : Stmt := PySem.Challenge.pw_normalhouse_k42_terms_without_variables.main.body.getD i (.Pass ⟨0, 0, 0, 0⟩)
/-- is_integer(value, low, high) -/
abbrev s0 : Stmt := top 14
def ir0 : Stms :=
  (.cons (.ret (.and (.isi (.var 0) .int) (.and (.not (.isi (.var 0) .bool)) (.chn .le .le (.var 1) (.var 0) (.var 2)))))
  .nil)
/-- is_name(value, sign) -/
abbrev s1 : Stmt := top 15
def ir1 : Stms :=
  (.cons (.ife (.or (.not (.isi (.var 0) .str)) (.or (.not (.chn .le .le (.lit (.int 1)) (.bi .len (.cons (.var 0) .nil)) (.lit (.int 12)))) (.cmp .in_ (.var 0) (.lit (.tup [(.str [108, 101, 116]), (.str [105, 110])]))))) (.cons (.ret (.lit (.bl false)))
  .nil) .nil)
  (.cons (.ret (.and (.cmp .in_ (.ix (.var 0) (.lit (.int 0))) (.lit (.str [97, 98, 99, 100, 101, 102, 103, 104, 105, 106, 107, 108, 109, 110, 111, 112, 113, 114, 115, 116, 117, 118, 119, 120, 121, 122]))) (.bi .all (.cons (.lc (.or (.cmp .in_ (.var 1) (.lit (.str [97, 98, 99, 100, 101, 102, 103, 104, 105, 106, 107, 108, 109, 110, 111, 112, 113, 114, 115, 116, 117, 118, 119, 120, 121, 122]))) (.cmp .in_ (.var 1) (.lit (.str [48, 49, 50, 51, 52, 53, 54, 55, 56, 57])))) (.nm 1) (.sq (.slc (.var 0) (.some (.lit (.int 1))) .none)) .none) .nil))))
  .nil))
/-- form_of(value) -/
abbrev s2 : Stmt := top 16
def ir2 : Stms :=
  (.cons (.ife (.or (.not (.isi (.var 0) .tuple)) (.or (.cmp .eq (.var 0) (.tup .nil)) (.not (.isi (.ix (.var 0) (.lit (.int 0))) .str)))) (.cons (.ret (.tup (.cons (.lit (.str [])) (.cons (.lit (.int 0)) .nil))))
  .nil) .nil)
  (.cons (.ret (.tup (.cons (.ix (.var 0) (.lit (.int 0))) (.cons (.bi .len (.cons (.var 0) .nil)) .nil))))
  .nil))
/-- is_term(value) -/
abbrev s3 : Stmt := top 18
def ir3 : Stms :=
  (.cons (.ret (.mth 1 (.new 0 .nil) (.cons (.var 0) (.cons (.lit (.int 0)) (.cons (.lit (.int 100)) .nil)))))
  .nil)
/-- check_term(value) -/
abbrev s4 : Stmt := top 19
def ir4 : Stms :=
  (.cons (.ife (.not (.call 3 (.cons (.var 0) .nil))) (.cons (.raise 2 .nil)
  .nil) .nil)
  .nil)
/-- made(term, rows, many, one, deep) -/
abbrev s5 : Stmt := top 20
def ir5 : Stms :=
  (.cons (.set 1 (.lst (.cons (.tup (.cons (.var 0) (.cons (.lit (.int 1)) .nil))) .nil)))
  (.cons (.set 2 (.lit (.int 0)))
  (.cons (.whl (.cmp .ne (.var 1) (.lst .nil)) (.cons (.unp [3, 4] (.bm .pop (.var 1) .nil))
  (.cons (.aug 2 .add (.lit (.int 1)))
  (.cons (.ife (.or (.cmp .gt (.var 2) (.lit (.int 4000))) (.cmp .gt (.var 4) (.lit (.int 300)))) (.cons (.raise 4 .nil)
  .nil) .nil)
  (.cons (.ife (.cmp .eq (.ix (.var 3) (.lit (.int 0))) (.lit (.str [102, 117, 110]))) (.cons (.ex (.bm .append (.var 1) (.cons (.tup (.cons (.ix (.var 3) (.lit (.int 1))) (.cons (.bin .add (.var 4) (.lit (.int 1))) .nil))) .nil)))
  .nil) (.cons (.ife (.cmp .eq (.ix (.var 3) (.lit (.int 0))) (.lit (.str [99, 97, 108, 108]))) (.cons (.ex (.bm .append (.var 1) (.cons (.tup (.cons (.ix (.var 3) (.lit (.int 1))) (.cons (.bin .add (.var 4) (.lit (.int 1))) .nil))) .nil)))
  (.cons (.ex (.bm .append (.var 1) (.cons (.tup (.cons (.ix (.var 3) (.lit (.int 2))) (.cons (.bin .add (.var 4) (.lit (.int 1))) .nil))) .nil)))
  .nil)) .nil)
  .nil))
  .nil)))))
  (.cons (.ret (.var 0))
  .nil))))
/-- is_leaf(value, form) -/
abbrev s6 : Stmt := top 23
def ir6 : Stms :=
  (.cons (.set 1 (.call 2 (.cons (.var 0) .nil)))
  (.cons (.ife (.cmp .eq (.var 1) (.tup (.cons (.lit (.str [99, 111, 109, 98])) (.cons (.lit (.int 2)) .nil)))) (.cons (.ret (.and (.isi (.ix (.var 0) (.lit (.int 1))) .str) (.kin false (.ix (.var 0) (.lit (.int 1))) [([73], (.int 1)), ([75], (.int 2)), ([83], (.int 3)), ([66], (.int 3)), ([67], (.int 3))])))
  .nil) .nil)
  (.cons (.ret (.and (.cmp .eq (.var 1) (.tup (.cons (.lit (.str [110, 97, 109, 101])) (.cons (.lit (.int 2)) .nil)))) (.call 1 (.cons (.ix (.var 0) (.lit (.int 1))) .nil))))
  .nil)))
/-- is_combinators(value, rows, many, one, deep) -/
abbrev s7 : Stmt := top 24
def ir7 : Stms :=
  (.cons (.set 1 (.lst (.cons (.tup (.cons (.var 0) (.cons (.lit (.int 1)) .nil))) .nil)))
  (.cons (.set 2 (.lit (.int 0)))
  (.cons (.whl (.cmp .ne (.var 1) (.lst .nil)) (.cons (.unp [3, 4] (.bm .pop (.var 1) .nil))
  (.cons (.aug 2 .add (.lit (.int 1)))
  (.cons (.ife (.or (.cmp .gt (.var 2) (.lit (.int 4000))) (.cmp .gt (.var 4) (.lit (.int 300)))) (.cons (.ret (.lit (.bl false)))
  .nil) .nil)
  (.cons (.ife (.cmp .eq (.call 2 (.cons (.var 3) .nil)) (.tup (.cons (.lit (.str [99, 97, 108, 108])) (.cons (.lit (.int 3)) .nil)))) (.cons (.ex (.bm .append (.var 1) (.cons (.tup (.cons (.ix (.var 3) (.lit (.int 1))) (.cons (.bin .add (.var 4) (.lit (.int 1))) .nil))) .nil)))
  (.cons (.ex (.bm .append (.var 1) (.cons (.tup (.cons (.ix (.var 3) (.lit (.int 2))) (.cons (.bin .add (.var 4) (.lit (.int 1))) .nil))) .nil)))
  .nil)) (.cons (.ife (.not (.call 6 (.cons (.var 3) .nil))) (.cons (.ret (.lit (.bl false)))
  .nil) .nil)
  .nil))
  .nil)))))
  (.cons (.ret (.lit (.bl true)))
  .nil))))
/-- check_row(value) -/
abbrev s8 : Stmt := top 25
def ir8 : Stms :=
  (.cons (.ife (.not (.call 7 (.cons (.var 0) .nil))) (.cons (.raise 3 (.cons (.lit (.str [114, 111, 119])) (.cons (.lit (.str [])) .nil)))
  .nil) .nil)
  .nil)
/-- call(one, other) -/
abbrev s9 : Stmt := top 26
def ir9 : Stms :=
  (.cons (.ret (.tup (.cons (.lit (.str [99, 97, 108, 108])) (.cons (.var 0) (.cons (.var 1) .nil)))))
  .nil)
/-- at(i) -/
abbrev s10 : Stmt := top 29
def ir10 : Stms :=
  (.cons (.ret (.tup (.cons (.lit (.str [97, 116])) (.cons (.var 0) .nil))))
  .nil)
/-- functions(many, body, k) -/
abbrev s11 : Stmt := top 30
def ir11 : Stms :=
  (.cons (.for_ (.nm 2) (.rng (.var 0)) (.cons (.set 1 (.tup (.cons (.lit (.str [102, 117, 110])) (.cons (.var 1) .nil))))
  .nil))
  (.cons (.ret (.var 1))
  .nil))
/-- meanings(x, y, z) -/
abbrev s12 : Stmt := top 31
def ir12 : Stms :=
  (.cons (.unp [0, 1, 2] (.tup (.cons (.call 10 (.cons (.lit (.int 2)) .nil)) (.cons (.call 10 (.cons (.lit (.int 1)) .nil)) (.cons (.call 10 (.cons (.lit (.int 0)) .nil)) .nil)))))
  (.cons (.ret (.dct (.cons (.lit (.str [73])) (.cons (.call 11 (.cons (.lit (.int 1)) (.cons (.call 10 (.cons (.lit (.int 0)) .nil)) .nil))) (.cons (.lit (.str [75])) (.cons (.call 11 (.cons (.lit (.int 2)) (.cons (.call 10 (.cons (.lit (.int 1)) .nil)) .nil))) (.cons (.lit (.str [83])) (.cons (.call 11 (.cons (.lit (.int 3)) (.cons (.call 9 (.cons (.call 9 (.cons (.var 0) (.cons (.var 2) .nil))) (.cons (.call 9 (.cons (.var 1) (.cons (.var 2) .nil))) .nil))) .nil))) (.cons (.lit (.str [66])) (.cons (.call 11 (.cons (.lit (.int 3)) (.cons (.call 9 (.cons (.var 0) (.cons (.call 9 (.cons (.var 1) (.cons (.var 2) .nil))) .nil))) .nil))) (.cons (.lit (.str [67])) (.cons (.call 11 (.cons (.lit (.int 3)) (.cons (.call 9 (.cons (.call 9 (.cons (.var 0) (.cons (.var 2) .nil))) (.cons (.var 1) .nil))) .nil))) .nil))))))))))))
  .nil))
/-- has_first(row, rows, one) -/
abbrev s13 : Stmt := top 32
def ir13 : Stms :=
  (.cons (.set 1 (.lst (.cons (.var 0) .nil)))
  (.cons (.whl (.cmp .ne (.var 1) (.lst .nil)) (.cons (.set 2 (.bm .pop (.var 1) .nil))
  (.cons (.ife (.cmp .eq (.var 2) (.lit (.tup [(.str [97, 116]), (.int 0)]))) (.cons (.ret (.lit (.bl true)))
  .nil) .nil)
  (.cons (.ife (.cmp .eq (.ix (.var 2) (.lit (.int 0))) (.lit (.str [99, 97, 108, 108]))) (.cons (.ex (.bm .extend (.var 1) (.cons (.slc (.var 2) (.some (.lit (.int 1))) .none) .nil)))
  .nil) .nil)
  .nil))))
  (.cons (.ret (.lit (.bl false)))
  .nil)))
/-- lowered(row) -/
abbrev s14 : Stmt := top 33
def ir14 : Stms :=
  (.cons (.ife (.cmp .eq (.ix (.var 0) (.lit (.int 0))) (.lit (.str [97, 116]))) (.cons (.ret (.call 10 (.cons (.bin .sub (.ix (.var 0) (.lit (.int 1))) (.lit (.int 1))) .nil)))
  .nil) .nil)
  (.cons (.ife (.cmp .eq (.ix (.var 0) (.lit (.int 0))) (.lit (.str [99, 97, 108, 108]))) (.cons (.ret (.call 9 (.cons (.call 14 (.cons (.ix (.var 0) (.lit (.int 1))) .nil)) (.cons (.call 14 (.cons (.ix (.var 0) (.lit (.int 2))) .nil)) .nil))))
  .nil) .nil)
  (.cons (.ret (.var 0))
  .nil)))
/-- without(row, one, other) -/
abbrev s15 : Stmt := top 34
def ir15 : Stms :=
  (.cons (.ife (.cmp .eq (.var 0) (.lit (.tup [(.str [97, 116]), (.int 0)]))) (.cons (.ret (.tup (.cons (.lit (.str [99, 111, 109, 98])) (.cons (.lit (.str [73])) .nil))))
  .nil) .nil)
  (.cons (.ife (.not (.call 13 (.cons (.var 0) .nil))) (.cons (.ret (.call 9 (.cons (.tup (.cons (.lit (.str [99, 111, 109, 98])) (.cons (.lit (.str [75])) .nil))) (.cons (.call 14 (.cons (.var 0) .nil)) .nil))))
  .nil) .nil)
  (.cons (.unp [1, 2] (.slc (.var 0) (.some (.lit (.int 1))) .none))
  (.cons (.ife (.not (.call 13 (.cons (.var 1) .nil))) (.cons (.ife (.cmp .eq (.var 2) (.lit (.tup [(.str [97, 116]), (.int 0)]))) (.cons (.ret (.call 14 (.cons (.var 1) .nil)))
  .nil) .nil)
  (.cons (.ret (.call 9 (.cons (.call 9 (.cons (.tup (.cons (.lit (.str [99, 111, 109, 98])) (.cons (.lit (.str [66])) .nil))) (.cons (.call 14 (.cons (.var 1) .nil)) .nil))) (.cons (.call 15 (.cons (.var 2) .nil)) .nil))))
  .nil)) .nil)
  (.cons (.ife (.not (.call 13 (.cons (.var 2) .nil))) (.cons (.ret (.call 9 (.cons (.call 9 (.cons (.tup (.cons (.lit (.str [99, 111, 109, 98])) (.cons (.lit (.str [67])) .nil))) (.cons (.call 15 (.cons (.var 1) .nil)) .nil))) (.cons (.call 14 (.cons (.var 2) .nil)) .nil))))
  .nil) .nil)
  (.cons (.ret (.call 9 (.cons (.call 9 (.cons (.tup (.cons (.lit (.str [99, 111, 109, 98])) (.cons (.lit (.str [83])) .nil))) (.cons (.call 15 (.cons (.var 1) .nil)) .nil))) (.cons (.call 15 (.cons (.var 2) .nil)) .nil))))
  .nil))))))
/-- row_of_part(part) -/
abbrev s16 : Stmt := top 35
def ir16 : Stms :=
  (.cons (.ife (.cmp .eq (.ix (.var 0) (.lit (.int 0))) (.lit (.str [102, 117, 110]))) (.cons (.ret (.call 5 (.cons (.call 15 (.cons (.call 16 (.cons (.ix (.var 0) (.lit (.int 1))) .nil)) .nil)) .nil)))
  .nil) .nil)
  (.cons (.ife (.cmp .eq (.ix (.var 0) (.lit (.int 0))) (.lit (.str [99, 97, 108, 108]))) (.cons (.ret (.call 5 (.cons (.call 9 (.cons (.call 16 (.cons (.ix (.var 0) (.lit (.int 1))) .nil)) (.cons (.call 16 (.cons (.ix (.var 0) (.lit (.int 2))) .nil)) .nil))) .nil)))
  .nil) .nil)
  (.cons (.ret (.var 0))
  .nil)))
/-- combinators_of(term) -/
abbrev s17 : Stmt := top 36
def ir17 : Stms :=
  (.cons (.ex (.call 4 (.cons (.var 0) .nil)))
  (.cons (.ret (.call 16 (.cons (.var 0) .nil)))
  .nil))
/-- meant(row, known) -/
abbrev s18 : Stmt := top 37
def ir18 : Stms :=
  (.cons (.ife (.cmp .eq (.ix (.var 0) (.lit (.int 0))) (.lit (.str [99, 97, 108, 108]))) (.cons (.ret (.call 9 (.cons (.call 18 (.cons (.ix (.var 0) (.lit (.int 1))) (.cons (.var 1) .nil))) (.cons (.call 18 (.cons (.ix (.var 0) (.lit (.int 2))) (.cons (.var 1) .nil))) .nil))))
  .nil) .nil)
  (.cons (.ife (.cmp .eq (.ix (.var 0) (.lit (.int 0))) (.lit (.str [99, 111, 109, 98]))) (.cons (.ret (.ix (.var 1) (.ix (.var 0) (.lit (.int 1)))))
  .nil) .nil)
  (.cons (.ret (.var 0))
  .nil)))
/-- term_of(row) -/
abbrev s19 : Stmt := top 38
def ir19 : Stms :=
  (.cons (.ex (.call 8 (.cons (.var 0) .nil)))
  (.cons (.ret (.call 5 (.cons (.call 18 (.cons (.var 0) (.cons (.call 12 .nil) .nil))) .nil)))
  .nil))
/-- _law_tape(script, seed, cell) -/
abbrev s20 : Stmt := top 40
def ir20 : Stms :=
  (.cons (.set 1 (.lit (.int 7)))
  (.cons (.for_ (.nm 2) (.sq (.var 0)) (.cons (.set 1 (.bin .mod (.bi .int (.cons (.bin .add (.bin .mul (.var 1) (.lit (.int 31))) (.var 2)) .nil)) (.lit (.int 1000003))))
  .nil))
  (.cons (.ret (.lst (.cons (.lc (.bi .abs (.cons (.bi .int (.cons (.var 2) .nil)) .nil)) (.nm 2) (.sq (.var 0)) .none) (.cons (.bin .add (.var 1) (.lit (.int 1))) .nil))))
  .nil)))
/-- _law_draw(tape, many, cells, number) -/
abbrev s21 : Stmt := top 41
def ir21 : Stms :=
  (.cons (.set 2 (.ix (.var 0) (.lit (.int 0))))
  (.cons (.whl (.and (.cmp .gt (.bi .len (.cons (.var 2) .nil)) (.lit (.int 0))) (.cmp .eq (.ix (.var 2) (.lit (.int 0))) (.lit (.int 0)))) (.cons (.ex (.bm .pop (.var 2) (.cons (.lit (.int 0)) .nil)))
  .nil))
  (.cons (.ife (.cmp .gt (.bi .len (.cons (.var 2) .nil)) (.lit (.int 0))) (.cons (.set 3 (.ix (.var 2) (.lit (.int 0))))
  (.cons (.setix (.var 2) (.lit (.int 0)) (.bin .fdiv (.var 3) (.var 1)))
  (.cons (.ret (.bin .mod (.bi .int (.cons (.var 3) .nil)) (.var 1)))
  .nil))) .nil)
  (.cons (.setix (.var 0) (.lit (.int 1)) (.bin .mod (.bi .int (.cons (.bin .add (.bin .mul (.ix (.var 0) (.lit (.int 1))) (.lit (.int 48271))) (.lit (.int 12345))) .nil)) (.lit (.int 2147483647))))
  (.cons (.ret (.bin .mod (.bi .int (.cons (.bin .fdiv (.ix (.var 0) (.lit (.int 1))) (.lit (.int 64))) .nil)) (.var 1)))
  .nil)))))
/-- _law_pick(tape, row) -/
abbrev s22 : Stmt := top 42
def ir22 : Stms :=
  (.cons (.ret (.ix (.var 1) (.call 21 (.cons (.var 0) (.cons (.bi .len (.cons (.var 1) .nil)) .nil)))))
  .nil)
/-- _law_same(told, due, k) -/
abbrev s23 : Stmt := top 43
def ir23 : Stms :=
  (.cons (.ife (.cmp .is_ (.var 1) (.lit .non)) (.cons (.ret (.cmp .is_ (.var 0) (.lit .non)))
  .nil) .nil)
  (.cons (.ife (.isi (.var 1) .bool) (.cons (.ret (.and (.isi (.var 0) .bool) (.cmp .eq (.var 0) (.var 1))))
  .nil) .nil)
  (.cons (.ife (.isi (.var 1) .int) (.cons (.ret (.and (.isi (.var 0) .int) (.and (.not (.isi (.var 0) .bool)) (.cmp .eq (.var 0) (.var 1)))))
  .nil) .nil)
  (.cons (.ife (.isi (.var 1) .str) (.cons (.ret (.and (.isi (.var 0) .str) (.cmp .eq (.var 0) (.var 1))))
  .nil) .nil)
  (.cons (.ife (.or (.cmp .ne (.isi (.var 1) .tuple) (.isi (.var 0) .tuple)) (.cmp .ne (.isi (.var 1) .list) (.isi (.var 0) .list))) (.cons (.ret (.lit (.bl false)))
  .nil) .nil)
  (.cons (.ife (.or (.not (.isi2 (.var 0) .tuple .list)) (.cmp .ne (.bi .len (.cons (.var 0) .nil)) (.bi .len (.cons (.var 1) .nil)))) (.cons (.ret (.lit (.bl false)))
  .nil) .nil)
  (.cons (.ret (.cmp .notin (.lit (.bl false)) (.lc (.call 23 (.cons (.ix (.var 0) (.var 2)) (.cons (.ix (.var 1) (.var 2)) .nil))) (.nm 2) (.rng (.bi .len (.cons (.var 1) .nil))) .none)))
  .nil)))))))
/-- _law_part(tape, around, size, pick, left) -/
abbrev s24 : Stmt := top 44
def ir24 : Stms :=
  (.cons (.set 3 (.call 21 (.cons (.var 0) (.cons (.lit (.int 8)) .nil))))
  (.cons (.ife (.or (.cmp .lt (.var 2) (.lit (.int 2))) (.cmp .eq (.var 3) (.lit (.int 0)))) (.cons (.ife (.and (.cmp .gt (.var 1) (.lit (.int 0))) (.cmp .gt (.call 21 (.cons (.var 0) (.cons (.lit (.int 7)) .nil))) (.lit (.int 0)))) (.cons (.ret (.tup (.cons (.lit (.str [97, 116])) (.cons (.call 21 (.cons (.var 0) (.cons (.var 1) .nil))) .nil))))
  .nil) .nil)
  (.cons (.ret (.tup (.cons (.lit (.str [110, 97, 109, 101])) (.cons (.call 22 (.cons (.var 0) (.cons (.lst (.cons (.lit (.str [97])) (.cons (.lit (.str [98])) (.cons (.lit (.str [122, 49])) .nil)))) .nil))) .nil))))
  .nil)) .nil)
  (.cons (.ife (.cmp .lt (.var 3) (.lit (.int 4))) (.cons (.ret (.tup (.cons (.lit (.str [102, 117, 110])) (.cons (.call 24 (.cons (.var 0) (.cons (.bin .add (.var 1) (.lit (.int 1))) (.cons (.bin .sub (.var 2) (.lit (.int 1))) .nil)))) .nil))))
  .nil) .nil)
  (.cons (.set 4 (.bin .add (.lit (.int 1)) (.call 21 (.cons (.var 0) (.cons (.bin .sub (.var 2) (.lit (.int 1))) .nil)))))
  (.cons (.ret (.tup (.cons (.lit (.str [99, 97, 108, 108])) (.cons (.call 24 (.cons (.var 0) (.cons (.var 1) (.cons (.var 4) .nil)))) (.cons (.call 24 (.cons (.var 0) (.cons (.var 1) (.cons (.bin .sub (.var 2) (.var 4)) .nil)))) .nil)))))
  .nil)))))
/-- _law_funs(many, body, k) -/
abbrev s25 : Stmt := top 45
def ir25 : Stms :=
  (.cons (.for_ (.nm 2) (.rng (.var 0)) (.cons (.set 1 (.tup (.cons (.lit (.str [102, 117, 110])) (.cons (.var 1) .nil))))
  .nil))
  (.cons (.ret (.var 1))
  .nil))
/-- _law_calls(head, args, one) -/
abbrev s26 : Stmt := top 46
def ir26 : Stms :=
  (.cons (.for_ (.nm 2) (.sq (.var 1)) (.cons (.set 0 (.tup (.cons (.lit (.str [99, 97, 108, 108])) (.cons (.var 0) (.cons (.var 2) .nil)))))
  .nil))
  (.cons (.ret (.var 0))
  .nil))
/-- _law_number(n, body, k) -/
abbrev s27 : Stmt := top 47
def ir27 : Stms :=
  (.cons (.set 1 (.tup (.cons (.lit (.str [97, 116])) (.cons (.lit (.int 0)) .nil))))
  (.cons (.for_ (.nm 2) (.rng (.var 0)) (.cons (.set 1 (.tup (.cons (.lit (.str [99, 97, 108, 108])) (.cons (.tup (.cons (.lit (.str [97, 116])) (.cons (.lit (.int 1)) .nil))) (.cons (.var 1) .nil)))))
  .nil))
  (.cons (.ret (.tup (.cons (.lit (.str [102, 117, 110])) (.cons (.tup (.cons (.lit (.str [102, 117, 110])) (.cons (.var 1) .nil))) .nil))))
  .nil)))
/-- _law_known(tape, one, twice, true, false, times, plus, found) -/
abbrev s28 : Stmt := top 48
def ir28 : Stms :=
  (.cons (.set 1 (.tup (.cons (.lit (.str [102, 117, 110])) (.cons (.tup (.cons (.lit (.str [97, 116])) (.cons (.lit (.int 0)) .nil))) .nil))))
  (.cons (.set 2 (.tup (.cons (.lit (.str [102, 117, 110])) (.cons (.tup (.cons (.lit (.str [99, 97, 108, 108])) (.cons (.tup (.cons (.lit (.str [97, 116])) (.cons (.lit (.int 0)) .nil))) (.cons (.tup (.cons (.lit (.str [97, 116])) (.cons (.lit (.int 0)) .nil))) .nil)))) .nil))))
  (.cons (.set 3 (.tup (.cons (.lit (.str [102, 117, 110])) (.cons (.tup (.cons (.lit (.str [102, 117, 110])) (.cons (.tup (.cons (.lit (.str [97, 116])) (.cons (.lit (.int 1)) .nil))) .nil))) .nil))))
  (.cons (.set 4 (.tup (.cons (.lit (.str [102, 117, 110])) (.cons (.tup (.cons (.lit (.str [102, 117, 110])) (.cons (.tup (.cons (.lit (.str [97, 116])) (.cons (.lit (.int 0)) .nil))) .nil))) .nil))))
  (.cons (.set 5 (.call 25 (.cons (.lit (.int 3)) (.cons (.tup (.cons (.lit (.str [99, 97, 108, 108])) (.cons (.tup (.cons (.lit (.str [97, 116])) (.cons (.lit (.int 2)) .nil))) (.cons (.tup (.cons (.lit (.str [99, 97, 108, 108])) (.cons (.tup (.cons (.lit (.str [97, 116])) (.cons (.lit (.int 1)) .nil))) (.cons (.tup (.cons (.lit (.str [97, 116])) (.cons (.lit (.int 0)) .nil))) .nil)))) .nil)))) .nil))))
  (.cons (.set 6 (.call 25 (.cons (.lit (.int 4)) (.cons (.call 26 (.cons (.tup (.cons (.lit (.str [97, 116])) (.cons (.lit (.int 3)) .nil))) (.cons (.lst (.cons (.tup (.cons (.lit (.str [97, 116])) (.cons (.lit (.int 1)) .nil))) (.cons (.call 26 (.cons (.tup (.cons (.lit (.str [97, 116])) (.cons (.lit (.int 2)) .nil))) (.cons (.lst (.cons (.tup (.cons (.lit (.str [97, 116])) (.cons (.lit (.int 1)) .nil))) (.cons (.tup (.cons (.lit (.str [97, 116])) (.cons (.lit (.int 0)) .nil))) .nil))) .nil))) .nil))) .nil))) .nil))))
  (.cons (.set 7 (.lst (.cons (.var 1) (.cons (.var 2) (.cons (.var 3) (.cons (.var 4) (.cons (.var 5) (.cons (.var 6) (.cons (.tup (.cons (.lit (.str [99, 97, 108, 108])) (.cons (.var 2) (.cons (.var 2) .nil)))) (.cons (.call 27 (.cons (.call 21 (.cons (.var 0) (.cons (.lit (.int 4)) .nil))) .nil)) (.cons (.call 27 (.cons (.lit (.int 2)) .nil)) .nil)))))))))))
  (.cons (.ex (.bm .append (.var 7) (.cons (.call 25 (.cons (.lit (.int 3)) (.cons (.call 26 (.cons (.tup (.cons (.lit (.str [97, 116])) (.cons (.lit (.int 2)) .nil))) (.cons (.lst (.cons (.tup (.cons (.lit (.str [97, 116])) (.cons (.lit (.int 0)) .nil))) (.cons (.tup (.cons (.lit (.str [99, 97, 108, 108])) (.cons (.tup (.cons (.lit (.str [97, 116])) (.cons (.lit (.int 1)) .nil))) (.cons (.tup (.cons (.lit (.str [97, 116])) (.cons (.lit (.int 0)) .nil))) .nil)))) .nil))) .nil))) .nil))) .nil)))
  (.cons (.ret (.call 22 (.cons (.var 0) (.cons (.var 7) .nil))))
  .nil)))))))))
/-- _law_term(tape, size, pick, k) -/
abbrev s29 : Stmt := top 49
def ir29 : Stms :=
  (.cons (.set 2 (.call 21 (.cons (.var 0) (.cons (.lit (.int 4)) .nil))))
  (.cons (.ife (.cmp .eq (.var 2) (.lit (.int 0))) (.cons (.ret (.call 26 (.cons (.call 28 (.cons (.var 0) .nil)) (.cons (.lc (.call 28 (.cons (.var 0) .nil)) (.nm 3) (.rng (.call 21 (.cons (.var 0) (.cons (.lit (.int 4)) .nil)))) .none) .nil))))
  .nil) .nil)
  (.cons (.ife (.cmp .eq (.var 2) (.lit (.int 1))) (.cons (.ret (.call 26 (.cons (.call 28 (.cons (.var 0) .nil)) (.cons (.lc (.call 24 (.cons (.var 0) (.cons (.lit (.int 0)) (.cons (.bin .add (.lit (.int 1)) (.call 21 (.cons (.var 0) (.cons (.var 1) .nil)))) .nil)))) (.nm 3) (.rng (.bin .add (.lit (.int 1)) (.call 21 (.cons (.var 0) (.cons (.lit (.int 3)) .nil))))) .none) .nil))))
  .nil) .nil)
  (.cons (.ret (.call 24 (.cons (.var 0) (.cons (.lit (.int 0)) (.cons (.bin .add (.lit (.int 2)) (.call 21 (.cons (.var 0) (.cons (.var 1) .nil)))) .nil)))))
  .nil))))
/-- _law_size(t, rows, many, one, part) -/
abbrev s30 : Stmt := top 50
def ir30 : Stms :=
  (.cons (.set 1 (.lst (.cons (.var 0) .nil)))
  (.cons (.set 2 (.lit (.int 0)))
  (.cons (.whl (.cmp .gt (.bi .len (.cons (.var 1) .nil)) (.lit (.int 0))) (.cons (.set 3 (.bm .pop (.var 1) .nil))
  (.cons (.set 2 (.bin .add (.var 2) (.lit (.int 1))))
  (.cons (.ife (.cmp .in_ (.ix (.var 3) (.lit (.int 0))) (.tup (.cons (.lit (.str [102, 117, 110])) (.cons (.lit (.str [99, 97, 108, 108])) .nil)))) (.cons (.set 1 (.bin .add (.var 1) (.lc (.var 4) (.nm 4) (.sq (.slc (.var 3) (.some (.lit (.int 1))) .none)) .none)))
  .nil) .nil)
  .nil))))
  (.cons (.ret (.var 2))
  .nil))))
/-- _law_has(t, deep) -/
abbrev s31 : Stmt := top 51
def ir31 : Stms :=
  (.cons (.ife (.cmp .eq (.ix (.var 0) (.lit (.int 0))) (.lit (.str [97, 116]))) (.cons (.ret (.cmp .eq (.ix (.var 0) (.lit (.int 1))) (.var 1)))
  .nil) .nil)
  (.cons (.ife (.cmp .eq (.ix (.var 0) (.lit (.int 0))) (.lit (.str [102, 117, 110]))) (.cons (.ret (.call 31 (.cons (.ix (.var 0) (.lit (.int 1))) (.cons (.bin .add (.var 1) (.lit (.int 1))) .nil))))
  .nil) .nil)
  (.cons (.ret (.and (.cmp .eq (.ix (.var 0) (.lit (.int 0))) (.lit (.str [99, 97, 108, 108]))) (.or (.call 31 (.cons (.ix (.var 0) (.lit (.int 1))) (.cons (.var 1) .nil))) (.call 31 (.cons (.ix (.var 0) (.lit (.int 2))) (.cons (.var 1) .nil))))))
  .nil)))
/-- _law_call(call_v, value, error, told) -/
abbrev s32 : Stmt := top 52
def ir32 : Stms :=
  (.cons (.try_ (.cons (.set 3 (.callv 0 (.cons (.var 1) .nil)))
  .nil) [(4, .ret (.lit (.str [102, 97, 114]))), (2, .ret (.lit (.str [116, 101, 114, 109]))), (3, .ret (.exf 2 0))])
  (.cons (.ret (.var 3))
  .nil))
/-- _law_lower(c) -/
abbrev s33 : Stmt := top 53
def ir33 : Stms :=
  (.cons (.ife (.cmp .eq (.ix (.var 0) (.lit (.int 0))) (.lit (.str [97, 116]))) (.cons (.ret (.tup (.cons (.lit (.str [97, 116])) (.cons (.bin .sub (.ix (.var 0) (.lit (.int 1))) (.lit (.int 1))) .nil))))
  .nil) .nil)
  (.cons (.ret (.ite (.cmp .eq (.ix (.var 0) (.lit (.int 0))) (.lit (.str [99, 97, 108, 108]))) (.tup (.cons (.lit (.str [99, 97, 108, 108])) (.cons (.call 33 (.cons (.ix (.var 0) (.lit (.int 1))) .nil)) (.cons (.call 33 (.cons (.ix (.var 0) (.lit (.int 2))) .nil)) .nil)))) (.var 0)))
  .nil))
/-- _law_without(c, a, b) -/
abbrev s34 : Stmt := top 54
def ir34 : Stms :=
  (.cons (.ife (.cmp .eq (.var 0) (.tup (.cons (.lit (.str [97, 116])) (.cons (.lit (.int 0)) .nil)))) (.cons (.ret (.tup (.cons (.lit (.str [99, 111, 109, 98])) (.cons (.lit (.str [73])) .nil))))
  .nil) .nil)
  (.cons (.ife (.not (.call 31 (.cons (.var 0) (.cons (.lit (.int 0)) .nil)))) (.cons (.ret (.tup (.cons (.lit (.str [99, 97, 108, 108])) (.cons (.tup (.cons (.lit (.str [99, 111, 109, 98])) (.cons (.lit (.str [75])) .nil))) (.cons (.call 33 (.cons (.var 0) .nil)) .nil)))))
  .nil) .nil)
  (.cons (.unp [1, 2] (.tup (.cons (.ix (.var 0) (.lit (.int 1))) (.cons (.ix (.var 0) (.lit (.int 2))) .nil))))
  (.cons (.ife (.and (.cmp .eq (.var 2) (.tup (.cons (.lit (.str [97, 116])) (.cons (.lit (.int 0)) .nil)))) (.not (.call 31 (.cons (.var 1) (.cons (.lit (.int 0)) .nil))))) (.cons (.ret (.call 33 (.cons (.var 1) .nil)))
  .nil) .nil)
  (.cons (.ife (.not (.call 31 (.cons (.var 1) (.cons (.lit (.int 0)) .nil)))) (.cons (.ret (.call 26 (.cons (.tup (.cons (.lit (.str [99, 111, 109, 98])) (.cons (.lit (.str [66])) .nil))) (.cons (.lst (.cons (.call 33 (.cons (.var 1) .nil)) (.cons (.call 34 (.cons (.var 2) .nil)) .nil))) .nil))))
  .nil) .nil)
  (.cons (.ife (.not (.call 31 (.cons (.var 2) (.cons (.lit (.int 0)) .nil)))) (.cons (.ret (.call 26 (.cons (.tup (.cons (.lit (.str [99, 111, 109, 98])) (.cons (.lit (.str [67])) .nil))) (.cons (.lst (.cons (.call 34 (.cons (.var 1) .nil)) (.cons (.call 33 (.cons (.var 2) .nil)) .nil))) .nil))))
  .nil) .nil)
  (.cons (.ret (.call 26 (.cons (.tup (.cons (.lit (.str [99, 111, 109, 98])) (.cons (.lit (.str [83])) .nil))) (.cons (.lst (.cons (.call 34 (.cons (.var 1) .nil)) (.cons (.call 34 (.cons (.var 2) .nil)) .nil))) .nil))))
  .nil)))))))
/-- _law_made(t) -/
abbrev s35 : Stmt := top 55
def ir35 : Stms :=
  (.cons (.ife (.cmp .eq (.ix (.var 0) (.lit (.int 0))) (.lit (.str [102, 117, 110]))) (.cons (.ret (.call 34 (.cons (.call 35 (.cons (.ix (.var 0) (.lit (.int 1))) .nil)) .nil)))
  .nil) .nil)
  (.cons (.ret (.ite (.cmp .eq (.ix (.var 0) (.lit (.int 0))) (.lit (.str [99, 97, 108, 108]))) (.tup (.cons (.lit (.str [99, 97, 108, 108])) (.cons (.call 35 (.cons (.ix (.var 0) (.lit (.int 1))) .nil)) (.cons (.call 35 (.cons (.ix (.var 0) (.lit (.int 2))) .nil)) .nil)))) (.var 0)))
  .nil))
/-- _law_meant(c, bodies, x, y, z) -/
abbrev s36 : Stmt := top 56
def ir36 : Stms :=
  (.cons (.ife (.cmp .eq (.ix (.var 0) (.lit (.int 0))) (.lit (.str [99, 97, 108, 108]))) (.cons (.ret (.tup (.cons (.lit (.str [99, 97, 108, 108])) (.cons (.call 36 (.cons (.ix (.var 0) (.lit (.int 1))) .nil)) (.cons (.call 36 (.cons (.ix (.var 0) (.lit (.int 2))) .nil)) .nil)))))
  .nil) .nil)
  (.cons (.ife (.cmp .ne (.ix (.var 0) (.lit (.int 0))) (.lit (.str [99, 111, 109, 98]))) (.cons (.ret (.var 0))
  .nil) .nil)
  (.cons (.unp [2, 3, 4] (.tup (.cons (.tup (.cons (.lit (.str [97, 116])) (.cons (.lit (.int 2)) .nil))) (.cons (.tup (.cons (.lit (.str [97, 116])) (.cons (.lit (.int 1)) .nil))) (.cons (.tup (.cons (.lit (.str [97, 116])) (.cons (.lit (.int 0)) .nil))) .nil)))))
  (.cons (.set 1 (.dct (.cons (.lit (.str [83])) (.cons (.tup (.cons (.lit (.str [99, 97, 108, 108])) (.cons (.tup (.cons (.lit (.str [99, 97, 108, 108])) (.cons (.var 2) (.cons (.var 4) .nil)))) (.cons (.tup (.cons (.lit (.str [99, 97, 108, 108])) (.cons (.var 3) (.cons (.var 4) .nil)))) .nil)))) (.cons (.lit (.str [66])) (.cons (.tup (.cons (.lit (.str [99, 97, 108, 108])) (.cons (.var 2) (.cons (.tup (.cons (.lit (.str [99, 97, 108, 108])) (.cons (.var 3) (.cons (.var 4) .nil)))) .nil)))) (.cons (.lit (.str [67])) (.cons (.tup (.cons (.lit (.str [99, 97, 108, 108])) (.cons (.tup (.cons (.lit (.str [99, 97, 108, 108])) (.cons (.var 2) (.cons (.var 4) .nil)))) (.cons (.var 3) .nil)))) .nil))))))))
  (.cons (.ife (.cmp .in_ (.ix (.var 0) (.lit (.int 1))) (.var 1)) (.cons (.ret (.call 25 (.cons (.lit (.int 3)) (.cons (.ix (.var 1) (.ix (.var 0) (.lit (.int 1)))) .nil))))
  .nil) .nil)
  (.cons (.ret (.ite (.cmp .eq (.ix (.var 0) (.lit (.int 1))) (.lit (.str [75]))) (.call 25 (.cons (.lit (.int 2)) (.cons (.var 3) .nil))) (.call 25 (.cons (.lit (.int 1)) (.cons (.var 4) .nil)))))
  .nil))))))
/-- law(script, tape, turn, term, due, told) -/
abbrev s37 : Stmt := top 57
def ir37 : Stms :=
  (.cons (.set 1 (.call 20 (.cons (.var 0) .nil)))
  (.cons (.for_ (.nm 2) (.rng (.lit (.int 4))) (.cons (.set 3 (.call 29 (.cons (.var 1) (.cons (.lit (.int 24)) .nil))))
  (.cons (.set 4 (.call 35 (.cons (.var 3) .nil)))
  (.cons (.set 5 (.call 32 (.cons (.lit (.fn 17)) (.cons (.var 3) .nil))))
  (.cons (.ife (.and (.cmp .ne (.var 5) (.lit (.str [102, 97, 114]))) (.not (.and (.call 23 (.cons (.var 5) (.cons (.var 4) .nil))) (.call 7 (.cons (.var 5) .nil))))) (.cons (.ret (.lit (.bl false)))
  .nil) .nil)
  (.cons (.ife (.and (.cmp .eq (.var 5) (.lit (.str [102, 97, 114]))) (.cmp .lt (.call 30 (.cons (.var 4) .nil)) (.lit (.int 1000)))) (.cons (.ret (.lit (.bl false)))
  .nil) .nil)
  (.cons (.ife (.and (.cmp .lt (.call 30 (.cons (.var 4) .nil)) (.lit (.int 300))) (.not (.call 23 (.cons (.call 32 (.cons (.lit (.fn 19)) (.cons (.var 4) .nil))) (.cons (.call 36 (.cons (.var 4) .nil)) .nil))))) (.cons (.ret (.lit (.bl false)))
  .nil) .nil)
  (.cons (.ife (.cmp .ne (.call 32 (.cons (.lit (.fn 17)) (.cons (.call 22 (.cons (.var 1) (.cons (.lst (.cons (.lit .non) (.cons (.tup (.cons (.lit (.str [97, 116])) (.cons (.lit (.int 0)) .nil))) (.cons (.tup (.cons (.lit (.str [99, 111, 109, 98])) (.cons (.lit (.str [83])) .nil))) (.cons (.tup (.cons (.lit (.str [102, 117, 110])) (.cons (.tup (.cons (.lit (.str [97, 116])) (.cons (.lit (.int 1)) .nil))) .nil))) .nil))))) .nil))) .nil))) (.lit (.str [116, 101, 114, 109]))) (.cons (.ret (.lit (.bl false)))
  .nil) .nil)
  (.cons (.ife (.cmp .ne (.call 32 (.cons (.lit (.fn 19)) (.cons (.call 22 (.cons (.var 1) (.cons (.lst (.cons (.lit .non) (.cons (.tup (.cons (.lit (.str [97, 116])) (.cons (.lit (.int 0)) .nil))) (.cons (.tup (.cons (.lit (.str [102, 117, 110])) (.cons (.tup (.cons (.lit (.str [97, 116])) (.cons (.lit (.int 0)) .nil))) .nil))) (.cons (.tup (.cons (.lit (.str [99, 111, 109, 98])) (.cons (.lit (.str [90])) .nil))) .nil))))) .nil))) .nil))) (.lit (.str [114, 111, 119]))) (.cons (.ret (.lit (.bl false)))
  .nil) .nil)
  .nil)))))))))
  (.cons (.ret (.lit (.bl true)))
  .nil)))
/-- Form.__init__(self) -/
abbrev s38 : Stmt := inClass (top 17) 0
def ir38 : Stms :=
  (.cons (.setat (.var 0) 2 (.lit (.int 0)))
  .nil)
/-- Form.is_good(self, value, around, left, form) -/
abbrev s39 : Stmt := inClass (top 17) 1
def ir39 : Stms :=
  (.cons (.augat (.var 0) 2 .add (.lit (.int 1)))
  (.cons (.ife (.or (.cmp .eq (.var 3) (.lit (.int 0))) (.cmp .gt (.att (.var 0) 2) (.lit (.int 400)))) (.cons (.ret (.lit (.bl false)))
  .nil) .nil)
  (.cons (.set 4 (.call 2 (.cons (.var 1) .nil)))
  (.cons (.ife (.cmp .eq (.var 4) (.tup (.cons (.lit (.str [97, 116])) (.cons (.lit (.int 2)) .nil)))) (.cons (.ret (.call 0 (.cons (.ix (.var 1) (.lit (.int 1))) (.cons (.lit (.int 0)) (.cons (.bin .sub (.var 2) (.lit (.int 1))) .nil)))))
  .nil) .nil)
  (.cons (.ife (.cmp .eq (.var 4) (.tup (.cons (.lit (.str [110, 97, 109, 101])) (.cons (.lit (.int 2)) .nil)))) (.cons (.ret (.call 1 (.cons (.ix (.var 1) (.lit (.int 1))) .nil)))
  .nil) .nil)
  (.cons (.ife (.cmp .eq (.var 4) (.tup (.cons (.lit (.str [102, 117, 110])) (.cons (.lit (.int 2)) .nil)))) (.cons (.ret (.mth 1 (.var 0) (.cons (.ix (.var 1) (.lit (.int 1))) (.cons (.bin .add (.var 2) (.lit (.int 1))) (.cons (.bin .sub (.var 3) (.lit (.int 1))) .nil)))))
  .nil) .nil)
  (.cons (.ife (.cmp .ne (.var 4) (.tup (.cons (.lit (.str [99, 97, 108, 108])) (.cons (.lit (.int 3)) .nil)))) (.cons (.ret (.lit (.bl false)))
  .nil) .nil)
  (.cons (.ret (.and (.mth 1 (.var 0) (.cons (.ix (.var 1) (.lit (.int 1))) (.cons (.var 2) (.cons (.bin .sub (.var 3) (.lit (.int 1))) .nil)))) (.mth 1 (.var 0) (.cons (.ix (.var 1) (.lit (.int 2))) (.cons (.var 2) (.cons (.bin .sub (.var 3) (.lit (.int 1))) .nil))))))
  .nil))))))))
abbrev x3 : Stmt := inClass (top 3) 0
def fld : Nat → Str
  | 0 => "kind"
  | 1 => "name"
  | 2 => "_many"
  | _ => "?"
def mn : Nat → Str
  | 0 => "__init__"
  | 1 => "is_good"
  | _ => "?"
def fnn : Nat → Str
  | 0 => "is_integer"
  | 1 => "is_name"
  | 2 => "form_of"
  | 3 => "is_term"
  | 4 => "check_term"
  | 5 => "made"
  | 6 => "is_leaf"
  | 7 => "is_combinators"
  | 8 => "check_row"
  | 9 => "call"
  | 10 => "at"
  | 11 => "functions"
  | 12 => "meanings"
  | 13 => "has_first"
  | 14 => "lowered"
  | 15 => "without"
  | 16 => "row_of_part"
  | 17 => "combinators_of"
  | 18 => "meant"
  | 19 => "term_of"
  | 20 => "_law_tape"
  | 21 => "_law_draw"
  | 22 => "_law_pick"
  | 23 => "_law_same"
  | 24 => "_law_part"
  | 25 => "_law_funs"
  | 26 => "_law_calls"
  | 27 => "_law_number"
  | 28 => "_law_known"
  | 29 => "_law_term"
  | 30 => "_law_size"
  | 31 => "_law_has"
  | 32 => "_law_call"
  | 33 => "_law_lower"
  | 34 => "_law_without"
  | 35 => "_law_made"
  | 36 => "_law_meant"
  | 37 => "law"
  | _ => "?"
def cln : Nat → Str
  | 0 => "Form"
  | 1 => "TermError"
  | 2 => "BadTerm"
  | 3 => "BadKind"
  | 4 => "TooFar"
  | _ => "?"
def con : Nat → Option (Str × D)
  | 0 => some ("MOST_SIZE", (.int 400))
  | 1 => some ("MOST_DEEP", (.int 100))
  | 2 => some ("MOST_MADE", (.int 4000))
  | 3 => some ("MOST_NESTED", (.int 300))
  | 4 => some ("MOST_NAME", (.int 12))
  | 5 => some ("WORDS", (.tup [(.str [108, 101, 116]), (.str [105, 110])]))
  | 6 => some ("LOWER", (.str [97, 98, 99, 100, 101, 102, 103, 104, 105, 106, 107, 108, 109, 110, 111, 112, 113, 114, 115, 116, 117, 118, 119, 120, 121, 122]))
  | 7 => some ("DIGITS", (.str [48, 49, 50, 51, 52, 53, 54, 55, 56, 57]))
  | 9 => some ("FIRST", (.tup [(.str [97, 116]), (.int 0)]))
  | _ => none
def irs : Nat → Option (Nat × Nat × Stms)
  | 0 => some (3, 3, ir0)
  | 1 => some (2, 1, ir1)
  | 2 => some (1, 1, ir2)
  | 3 => some (1, 1, ir3)
  | 4 => some (1, 1, ir4)
  | 5 => some (5, 1, ir5)
  | 6 => some (2, 1, ir6)
  | 7 => some (5, 1, ir7)
  | 8 => some (1, 1, ir8)
  | 9 => some (2, 2, ir9)
  | 10 => some (1, 1, ir10)
  | 11 => some (3, 2, ir11)
  | 12 => some (3, 0, ir12)
  | 13 => some (3, 1, ir13)
  | 14 => some (1, 1, ir14)
  | 15 => some (3, 1, ir15)
  | 16 => some (1, 1, ir16)
  | 17 => some (1, 1, ir17)
  | 18 => some (2, 2, ir18)
  | 19 => some (1, 1, ir19)
  | 20 => some (3, 1, ir20)
  | 21 => some (4, 2, ir21)
  | 22 => some (2, 2, ir22)
  | 23 => some (3, 2, ir23)
  | 24 => some (5, 3, ir24)
  | 25 => some (3, 2, ir25)
  | 26 => some (3, 2, ir26)
  | 27 => some (3, 1, ir27)
  | 28 => some (8, 1, ir28)
  | 29 => some (4, 2, ir29)
  | 30 => some (5, 1, ir30)
  | 31 => some (2, 2, ir31)
  | 32 => some (4, 2, ir32)
  | 33 => some (1, 1, ir33)
  | 34 => some (3, 1, ir34)
  | 35 => some (1, 1, ir35)
  | 36 => some (5, 1, ir36)
  | 37 => some (6, 1, ir37)
  | 38 => some (1, 1, ir38)
  | 39 => some (5, 4, ir39)
  | _ => none
def io : Nat → Option Nat
  | 0 => some 38
  | _ => none
def mt : Nat → Nat → Option Nat
  | 0, 0 => some 38
  | 0, 1 => some 39
  | _, _ => none
def xfl : Nat → List Nat
  | 3 => [0, 1]
  | _ => []
def xsub : Nat → Nat → Bool
  | 1, 1 => true
  | 2, 1 => true
  | 2, 2 => true
  | 3, 1 => true
  | 3, 3 => true
  | 4, 1 => true
  | 4, 4 => true
  | _, _ => false
def ni : Nat → Bool
  | _ => false
def prg : Prg := ⟨irs, io, mt, xfl, xsub, 38⟩
theorem fld_inj0 : ∀ i, i < 3 → ∀ j, j < 3 → fld i = fld j → i = j := by decide +kernel
theorem fld_inj : ∀ i j, i < 3 → j < 3 → fld i = fld j → i = j := fun i j hi hj => fld_inj0 i hi j hj
def nob : List Str := ["isinstance", "int", "bool", "all", "str", "len", "tuple", "range", "abs", "list"]
def kdc : Nat → Option (Str × List (List Nat × D))
  | 0 => some ("ASKED", [([73], (.int 1)), ([75], (.int 2)), ([83], (.int 3)), ([66], (.int 3)), ([67], (.int 3))])
  | _ => none
def mkZ (w : World) (K : PySem.W.Frag) (cla fa : Nat → Addr) : Nm := { K := K, fld := fld, cla := cla, fa := fa, mn := mn, nc := 1, nx := 5, nf := 3, nfx := 2, fnn := fnn, cln := cln, nob := nob, con := con, nfn := 38, xfl := xfl, ni := ni, inj := fld_inj, par := some w.params, kdc := kdc }
section
variable {X : Cx} {K : PySem.W.Frag} {cla fa : Nat → Addr} {n k : Nat} {W : WX}
theorem d0 {P : Program} {w : World} {mg : Str → Option Value} {base : Heap} {f : Addr} {cdv : Value} {A0 : Around} {outer : List PySem.Env} {s : Shared} {H : Hp} {E : XK} (M : Mx (cxOf (L2.CX P w) P w K mg base ["value", "low", "high"] "is_integer" (defScope s0) f cdv A0 outer s H E) (mkZ w K cla fa) (lvl prg n) (k + 2) W false) (A : XA (cxOf (L2.CX P w) P w K mg base ["value", "low", "high"] "is_integer" (defScope s0) f cdv A0 outer s H E) (mkZ w K cla fa) (lvl prg n)) :
    MB (cxOf (L2.CX P w) P w K mg base ["value", "low", "high"] "is_integer" (defScope s0) f cdv A0 outer s H E) (mkZ w K cla fa) (lvl prg n) W (defBody s0) ir0 :=
  (mb_cons M (ms_ret M (me_and M (me_isi M (me_var M 0)) (me_and M (me_not M (me_isi M (me_var M 0))) (me_one M (me_chn M (me_var M 1) (me_var M 0) (me_var M 2))))))
  (mb_nil M))
theorem d1 {P : Program} {w : World} {mg : Str → Option Value} {base : Heap} {f : Addr} {cdv : Value} {A0 : Around} {outer : List PySem.Env} {s : Shared} {H : Hp} {E : XK} (M : Mx (cxOf (L2.CX P w) P w K mg base ["value", "sign"] "is_name" (defScope s1) f cdv A0 outer s H E) (mkZ w K cla fa) (lvl prg n) (k + 2) W false) (A : XA (cxOf (L2.CX P w) P w K mg base ["value", "sign"] "is_name" (defScope s1) f cdv A0 outer s H E) (mkZ w K cla fa) (lvl prg n)) :
    MB (cxOf (L2.CX P w) P w K mg base ["value", "sign"] "is_name" (defScope s1) f cdv A0 outer s H E) (mkZ w K cla fa) (lvl prg n) W (defBody s1) ir1 :=
  (mb_cons M (ms_ife M (mt_w M (mw_or M (mt_not M (mt_of M (me_isi M (me_var M 0)))) (mw_or M (mt_not M (mt_chn M (me_int M) (me_bi M (ma_cons M (me_var M 0) (ma_nil M))) (me_con M 4))) (mw_or1 M (mt_cmp M (me_var M 0) (me_con M 5)))))) (mb_cons M (ms_ret M (me_bl M))
  (mb_nil M)) (mb_nil M))
  (mb_cons M (ms_ret M (me_and M (me_cmp M (me_ix M (me_var M 0) (me_int M)) (me_con M 6)) (me_one M (me_bi M (ma_cons M (me_lc M [("sign", 1)] (mi_sq M (me_slc M (me_var M 0) (mo_some M (me_int M)) (mo_none M))) (fun _ _ _ _ _ M => (mg_name M 1)) (fun _ _ _ _ _ M => mc_none) (fun _ _ _ _ _ M => (me_or M (me_cmp M (me_var M 1) (me_con M 6)) (me_one M (me_cmp M (me_var M 1) (me_con M 7)))))) (ma_nil M))))))
  (mb_nil M)))
theorem d2 {P : Program} {w : World} {mg : Str → Option Value} {base : Heap} {f : Addr} {cdv : Value} {A0 : Around} {outer : List PySem.Env} {s : Shared} {H : Hp} {E : XK} (M : Mx (cxOf (L2.CX P w) P w K mg base ["value"] "form_of" (defScope s2) f cdv A0 outer s H E) (mkZ w K cla fa) (lvl prg n) (k + 2) W false) (A : XA (cxOf (L2.CX P w) P w K mg base ["value"] "form_of" (defScope s2) f cdv A0 outer s H E) (mkZ w K cla fa) (lvl prg n)) :
    MB (cxOf (L2.CX P w) P w K mg base ["value"] "form_of" (defScope s2) f cdv A0 outer s H E) (mkZ w K cla fa) (lvl prg n) W (defBody s2) ir2 :=
  (mb_cons M (ms_ife M (mt_w M (mw_or M (mt_not M (mt_of M (me_isi M (me_var M 0)))) (mw_or M (mt_cmp M (me_var M 0) (me_tup M (ma_nil M))) (mw_or1 M (mt_not M (mt_of M (me_isi M (me_ix M (me_var M 0) (me_int M))))))))) (mb_cons M (ms_ret M (me_tup M (ma_cons M (me_str M) (ma_cons M (me_int M) (ma_nil M)))))
  (mb_nil M)) (mb_nil M))
  (mb_cons M (ms_ret M (me_tup M (ma_cons M (me_ix M (me_var M 0) (me_int M)) (ma_cons M (me_bi M (ma_cons M (me_var M 0) (ma_nil M))) (ma_nil M)))))
  (mb_nil M)))
theorem d3 {P : Program} {w : World} {mg : Str → Option Value} {base : Heap} {f : Addr} {cdv : Value} {A0 : Around} {outer : List PySem.Env} {s : Shared} {H : Hp} {E : XK} (M : Mx (cxOf (L2.CX P w) P w K mg base ["value"] "is_term" (defScope s3) f cdv A0 outer s H E) (mkZ w K cla fa) (lvl prg n) (k + 2) W false) (A : XA (cxOf (L2.CX P w) P w K mg base ["value"] "is_term" (defScope s3) f cdv A0 outer s H E) (mkZ w K cla fa) (lvl prg n)) :
    MB (cxOf (L2.CX P w) P w K mg base ["value"] "is_term" (defScope s3) f cdv A0 outer s H E) (mkZ w K cla fa) (lvl prg n) W (defBody s3) ir3 :=
  (mb_cons M (ms_ret M (me_mth M (me_new0 M) (ma_cons M (me_var M 0) (ma_cons M (me_int M) (ma_cons M (me_con M 1) (ma_nil M))))))
  (mb_nil M))
theorem d4 {P : Program} {w : World} {mg : Str → Option Value} {base : Heap} {f : Addr} {cdv : Value} {A0 : Around} {outer : List PySem.Env} {s : Shared} {H : Hp} {E : XK} (M : Mx (cxOf (L2.CX P w) P w K mg base ["value"] "check_term" (defScope s4) f cdv A0 outer s H E) (mkZ w K cla fa) (lvl prg n) (k + 2) W false) (A : XA (cxOf (L2.CX P w) P w K mg base ["value"] "check_term" (defScope s4) f cdv A0 outer s H E) (mkZ w K cla fa) (lvl prg n)) :
    MB (cxOf (L2.CX P w) P w K mg base ["value"] "check_term" (defScope s4) f cdv A0 outer s H E) (mkZ w K cla fa) (lvl prg n) W (defBody s4) ir4 :=
  (mb_cons M (ms_ife M (mt_not M (mt_of M (me_call M (ma_cons M (me_var M 0) (ma_nil M))))) (mb_cons M (ms_r0 M A)
  (mb_nil M)) (mb_nil M))
  (mb_nil M))
theorem d5 {P : Program} {w : World} {mg : Str → Option Value} {base : Heap} {f : Addr} {cdv : Value} {A0 : Around} {outer : List PySem.Env} {s : Shared} {H : Hp} {E : XK} (M : Mx (cxOf (L2.CX P w) P w K mg base ["term", "rows", "many", "one", "deep"] "made" (defScope s5) f cdv A0 outer s H E) (mkZ w K cla fa) (lvl prg n) (k + 2) W false) (A : XA (cxOf (L2.CX P w) P w K mg base ["term", "rows", "many", "one", "deep"] "made" (defScope s5) f cdv A0 outer s H E) (mkZ w K cla fa) (lvl prg n)) :
    MB (cxOf (L2.CX P w) P w K mg base ["term", "rows", "many", "one", "deep"] "made" (defScope s5) f cdv A0 outer s H E) (mkZ w K cla fa) (lvl prg n) W (defBody s5) ir5 :=
  (mb_cons M (ms_set M 1 (me_lst M (ma_cons M (me_tup M (ma_cons M (me_var M 0) (ma_cons M (me_int M) (ma_nil M)))) (ma_nil M))))
  (mb_cons M (ms_set M 2 (me_int M))
  (mb_cons M (ms_whl M (mt_cmp M (me_var M 1) (me_lst M (ma_nil M))) (mb_cons M (ms_unp M (mg_tup M (mg_cons M (mg_cons M (mg_nil M)))) (me_pop M (me_var M 1)))
  (mb_cons M (ms_aug M 2 (me_int M))
  (mb_cons M (ms_ife M (mt_w M (mw_or M (mt_cmp M (me_var M 2) (me_con M 2)) (mw_or1 M (mt_cmp M (me_var M 4) (me_con M 3))))) (mb_cons M (ms_r0 M A)
  (mb_nil M)) (mb_nil M))
  (mb_cons M (ms_ife M (mt_cmp M (me_ix M (me_var M 3) (me_int M)) (me_str M)) (mb_cons M (ms_ex M (me_append M (me_var M 1) (me_tup M (ma_cons M (me_ix M (me_var M 3) (me_int M)) (ma_cons M (me_bin M (me_var M 4) (me_int M)) (ma_nil M))))))
  (mb_nil M)) (mb_cons M (ms_ife M (mt_cmp M (me_ix M (me_var M 3) (me_int M)) (me_str M)) (mb_cons M (ms_ex M (me_append M (me_var M 1) (me_tup M (ma_cons M (me_ix M (me_var M 3) (me_int M)) (ma_cons M (me_bin M (me_var M 4) (me_int M)) (ma_nil M))))))
  (mb_cons M (ms_ex M (me_append M (me_var M 1) (me_tup M (ma_cons M (me_ix M (me_var M 3) (me_int M)) (ma_cons M (me_bin M (me_var M 4) (me_int M)) (ma_nil M))))))
  (mb_nil M))) (mb_nil M))
  (mb_nil M)))
  (mb_nil M))))))
  (mb_cons M (ms_ret M (me_var M 0))
  (mb_nil M)))))
theorem d6 {P : Program} {w : World} {mg : Str → Option Value} {base : Heap} {f : Addr} {cdv : Value} {A0 : Around} {outer : List PySem.Env} {s : Shared} {H : Hp} {E : XK} (M : Mx (cxOf (L2.CX P w) P w K mg base ["value", "form"] "is_leaf" (defScope s6) f cdv A0 outer s H E) (mkZ w K cla fa) (lvl prg n) (k + 2) W false) (A : XA (cxOf (L2.CX P w) P w K mg base ["value", "form"] "is_leaf" (defScope s6) f cdv A0 outer s H E) (mkZ w K cla fa) (lvl prg n)) :
    MB (cxOf (L2.CX P w) P w K mg base ["value", "form"] "is_leaf" (defScope s6) f cdv A0 outer s H E) (mkZ w K cla fa) (lvl prg n) W (defBody s6) ir6 :=
  (mb_cons M (ms_set M 1 (me_call M (ma_cons M (me_var M 0) (ma_nil M))))
  (mb_cons M (ms_ife M (mt_cmp M (me_var M 1) (me_tup M (ma_cons M (me_str M) (ma_cons M (me_int M) (ma_nil M))))) (mb_cons M (ms_ret M (me_and M (me_isi M (me_ix M (me_var M 0) (me_int M))) (me_one M (me_kin M 0 (me_ix M (me_var M 0) (me_int M))))))
  (mb_nil M)) (mb_nil M))
  (mb_cons M (ms_ret M (me_and M (me_cmp M (me_var M 1) (me_tup M (ma_cons M (me_str M) (ma_cons M (me_int M) (ma_nil M))))) (me_one M (me_call M (ma_cons M (me_ix M (me_var M 0) (me_int M)) (ma_nil M))))))
  (mb_nil M))))
theorem d7 {P : Program} {w : World} {mg : Str → Option Value} {base : Heap} {f : Addr} {cdv : Value} {A0 : Around} {outer : List PySem.Env} {s : Shared} {H : Hp} {E : XK} (M : Mx (cxOf (L2.CX P w) P w K mg base ["value", "rows", "many", "one", "deep"] "is_combinators" (defScope s7) f cdv A0 outer s H E) (mkZ w K cla fa) (lvl prg n) (k + 2) W false) (A : XA (cxOf (L2.CX P w) P w K mg base ["value", "rows", "many", "one", "deep"] "is_combinators" (defScope s7) f cdv A0 outer s H E) (mkZ w K cla fa) (lvl prg n)) :
    MB (cxOf (L2.CX P w) P w K mg base ["value", "rows", "many", "one", "deep"] "is_combinators" (defScope s7) f cdv A0 outer s H E) (mkZ w K cla fa) (lvl prg n) W (defBody s7) ir7 :=
  (mb_cons M (ms_set M 1 (me_lst M (ma_cons M (me_tup M (ma_cons M (me_var M 0) (ma_cons M (me_int M) (ma_nil M)))) (ma_nil M))))
  (mb_cons M (ms_set M 2 (me_int M))
  (mb_cons M (ms_whl M (mt_cmp M (me_var M 1) (me_lst M (ma_nil M))) (mb_cons M (ms_unp M (mg_tup M (mg_cons M (mg_cons M (mg_nil M)))) (me_pop M (me_var M 1)))
  (mb_cons M (ms_aug M 2 (me_int M))
  (mb_cons M (ms_ife M (mt_w M (mw_or M (mt_cmp M (me_var M 2) (me_con M 2)) (mw_or1 M (mt_cmp M (me_var M 4) (me_con M 3))))) (mb_cons M (ms_ret M (me_bl M))
  (mb_nil M)) (mb_nil M))
  (mb_cons M (ms_ife M (mt_cmp M (me_call M (ma_cons M (me_var M 3) (ma_nil M))) (me_tup M (ma_cons M (me_str M) (ma_cons M (me_int M) (ma_nil M))))) (mb_cons M (ms_ex M (me_append M (me_var M 1) (me_tup M (ma_cons M (me_ix M (me_var M 3) (me_int M)) (ma_cons M (me_bin M (me_var M 4) (me_int M)) (ma_nil M))))))
  (mb_cons M (ms_ex M (me_append M (me_var M 1) (me_tup M (ma_cons M (me_ix M (me_var M 3) (me_int M)) (ma_cons M (me_bin M (me_var M 4) (me_int M)) (ma_nil M))))))
  (mb_nil M))) (mb_cons M (ms_ife M (mt_not M (mt_of M (me_call M (ma_cons M (me_var M 3) (ma_nil M))))) (mb_cons M (ms_ret M (me_bl M))
  (mb_nil M)) (mb_nil M))
  (mb_nil M)))
  (mb_nil M))))))
  (mb_cons M (ms_ret M (me_bl M))
  (mb_nil M)))))
theorem d8 {P : Program} {w : World} {mg : Str → Option Value} {base : Heap} {f : Addr} {cdv : Value} {A0 : Around} {outer : List PySem.Env} {s : Shared} {H : Hp} {E : XK} (M : Mx (cxOf (L2.CX P w) P w K mg base ["value"] "check_row" (defScope s8) f cdv A0 outer s H E) (mkZ w K cla fa) (lvl prg n) (k + 2) W false) (A : XA (cxOf (L2.CX P w) P w K mg base ["value"] "check_row" (defScope s8) f cdv A0 outer s H E) (mkZ w K cla fa) (lvl prg n)) :
    MB (cxOf (L2.CX P w) P w K mg base ["value"] "check_row" (defScope s8) f cdv A0 outer s H E) (mkZ w K cla fa) (lvl prg n) W (defBody s8) ir8 :=
  (mb_cons M (ms_ife M (mt_not M (mt_of M (me_call M (ma_cons M (me_var M 0) (ma_nil M))))) (mb_cons M (ms_r1 M A (ma_cons M (me_str M) (ma_cons M (me_str M) (ma_nil M))))
  (mb_nil M)) (mb_nil M))
  (mb_nil M))
theorem d9 {P : Program} {w : World} {mg : Str → Option Value} {base : Heap} {f : Addr} {cdv : Value} {A0 : Around} {outer : List PySem.Env} {s : Shared} {H : Hp} {E : XK} (M : Mx (cxOf (L2.CX P w) P w K mg base ["one", "other"] "call" (defScope s9) f cdv A0 outer s H E) (mkZ w K cla fa) (lvl prg n) (k + 2) W false) (A : XA (cxOf (L2.CX P w) P w K mg base ["one", "other"] "call" (defScope s9) f cdv A0 outer s H E) (mkZ w K cla fa) (lvl prg n)) :
    MB (cxOf (L2.CX P w) P w K mg base ["one", "other"] "call" (defScope s9) f cdv A0 outer s H E) (mkZ w K cla fa) (lvl prg n) W (defBody s9) ir9 :=
  (mb_cons M (ms_ret M (me_tup M (ma_cons M (me_str M) (ma_cons M (me_var M 0) (ma_cons M (me_var M 1) (ma_nil M))))))
  (mb_nil M))
theorem d10 {P : Program} {w : World} {mg : Str → Option Value} {base : Heap} {f : Addr} {cdv : Value} {A0 : Around} {outer : List PySem.Env} {s : Shared} {H : Hp} {E : XK} (M : Mx (cxOf (L2.CX P w) P w K mg base ["i"] "at" (defScope s10) f cdv A0 outer s H E) (mkZ w K cla fa) (lvl prg n) (k + 2) W false) (A : XA (cxOf (L2.CX P w) P w K mg base ["i"] "at" (defScope s10) f cdv A0 outer s H E) (mkZ w K cla fa) (lvl prg n)) :
    MB (cxOf (L2.CX P w) P w K mg base ["i"] "at" (defScope s10) f cdv A0 outer s H E) (mkZ w K cla fa) (lvl prg n) W (defBody s10) ir10 :=
  (mb_cons M (ms_ret M (me_tup M (ma_cons M (me_str M) (ma_cons M (me_var M 0) (ma_nil M)))))
  (mb_nil M))
theorem d11 {P : Program} {w : World} {mg : Str → Option Value} {base : Heap} {f : Addr} {cdv : Value} {A0 : Around} {outer : List PySem.Env} {s : Shared} {H : Hp} {E : XK} (M : Mx (cxOf (L2.CX P w) P w K mg base ["many", "body", "k"] "functions" (defScope s11) f cdv A0 outer s H E) (mkZ w K cla fa) (lvl prg n) (k + 2) W false) (A : XA (cxOf (L2.CX P w) P w K mg base ["many", "body", "k"] "functions" (defScope s11) f cdv A0 outer s H E) (mkZ w K cla fa) (lvl prg n)) :
    MB (cxOf (L2.CX P w) P w K mg base ["many", "body", "k"] "functions" (defScope s11) f cdv A0 outer s H E) (mkZ w K cla fa) (lvl prg n) W (defBody s11) ir11 :=
  (mb_cons M (ms_for M (mi_rng M (me_var M 0)) (mg_name M 2) (mb_cons M (ms_set M 1 (me_tup M (ma_cons M (me_str M) (ma_cons M (me_var M 1) (ma_nil M)))))
  (mb_nil M)))
  (mb_cons M (ms_ret M (me_var M 1))
  (mb_nil M)))
theorem d12 {P : Program} {w : World} {mg : Str → Option Value} {base : Heap} {f : Addr} {cdv : Value} {A0 : Around} {outer : List PySem.Env} {s : Shared} {H : Hp} {E : XK} (M : Mx (cxOf (L2.CX P w) P w K mg base ["x", "y", "z"] "meanings" (defScope s12) f cdv A0 outer s H E) (mkZ w K cla fa) (lvl prg n) (k + 2) W false) (A : XA (cxOf (L2.CX P w) P w K mg base ["x", "y", "z"] "meanings" (defScope s12) f cdv A0 outer s H E) (mkZ w K cla fa) (lvl prg n)) :
    MB (cxOf (L2.CX P w) P w K mg base ["x", "y", "z"] "meanings" (defScope s12) f cdv A0 outer s H E) (mkZ w K cla fa) (lvl prg n) W (defBody s12) ir12 :=
  (mb_cons M (ms_par3 M 0 1 2 (ma_cons M (me_call M (ma_cons M (me_int M) (ma_nil M))) (ma_cons M (me_call M (ma_cons M (me_int M) (ma_nil M))) (ma_cons M (me_call M (ma_cons M (me_int M) (ma_nil M))) (ma_nil M)))))
  (mb_cons M (ms_ret M (me_dct M (mp_cons M (me_str M) (me_call M (ma_cons M (me_int M) (ma_cons M (me_call M (ma_cons M (me_int M) (ma_nil M))) (ma_nil M)))) (mp_cons M (me_str M) (me_call M (ma_cons M (me_int M) (ma_cons M (me_call M (ma_cons M (me_int M) (ma_nil M))) (ma_nil M)))) (mp_cons M (me_str M) (me_call M (ma_cons M (me_int M) (ma_cons M (me_call M (ma_cons M (me_call M (ma_cons M (me_var M 0) (ma_cons M (me_var M 2) (ma_nil M)))) (ma_cons M (me_call M (ma_cons M (me_var M 1) (ma_cons M (me_var M 2) (ma_nil M)))) (ma_nil M)))) (ma_nil M)))) (mp_cons M (me_str M) (me_call M (ma_cons M (me_int M) (ma_cons M (me_call M (ma_cons M (me_var M 0) (ma_cons M (me_call M (ma_cons M (me_var M 1) (ma_cons M (me_var M 2) (ma_nil M)))) (ma_nil M)))) (ma_nil M)))) (mp_cons M (me_str M) (me_call M (ma_cons M (me_int M) (ma_cons M (me_call M (ma_cons M (me_call M (ma_cons M (me_var M 0) (ma_cons M (me_var M 2) (ma_nil M)))) (ma_cons M (me_var M 1) (ma_nil M)))) (ma_nil M)))) (mp_nil M))))))))
  (mb_nil M)))
theorem d13 {P : Program} {w : World} {mg : Str → Option Value} {base : Heap} {f : Addr} {cdv : Value} {A0 : Around} {outer : List PySem.Env} {s : Shared} {H : Hp} {E : XK} (M : Mx (cxOf (L2.CX P w) P w K mg base ["row", "rows", "one"] "has_first" (defScope s13) f cdv A0 outer s H E) (mkZ w K cla fa) (lvl prg n) (k + 2) W false) (A : XA (cxOf (L2.CX P w) P w K mg base ["row", "rows", "one"] "has_first" (defScope s13) f cdv A0 outer s H E) (mkZ w K cla fa) (lvl prg n)) :
    MB (cxOf (L2.CX P w) P w K mg base ["row", "rows", "one"] "has_first" (defScope s13) f cdv A0 outer s H E) (mkZ w K cla fa) (lvl prg n) W (defBody s13) ir13 :=
  (mb_cons M (ms_set M 1 (me_lst M (ma_cons M (me_var M 0) (ma_nil M))))
  (mb_cons M (ms_whl M (mt_cmp M (me_var M 1) (me_lst M (ma_nil M))) (mb_cons M (ms_set M 2 (me_pop M (me_var M 1)))
  (mb_cons M (ms_ife M (mt_cmp M (me_var M 2) (me_con M 9)) (mb_cons M (ms_ret M (me_bl M))
  (mb_nil M)) (mb_nil M))
  (mb_cons M (ms_ife M (mt_cmp M (me_ix M (me_var M 2) (me_int M)) (me_str M)) (mb_cons M (ms_ex M (me_extend M (me_var M 1) (me_slc M (me_var M 2) (mo_some M (me_int M)) (mo_none M))))
  (mb_nil M)) (mb_nil M))
  (mb_nil M)))))
  (mb_cons M (ms_ret M (me_bl M))
  (mb_nil M))))
theorem d14 {P : Program} {w : World} {mg : Str → Option Value} {base : Heap} {f : Addr} {cdv : Value} {A0 : Around} {outer : List PySem.Env} {s : Shared} {H : Hp} {E : XK} (M : Mx (cxOf (L2.CX P w) P w K mg base ["row"] "lowered" (defScope s14) f cdv A0 outer s H E) (mkZ w K cla fa) (lvl prg n) (k + 2) W false) (A : XA (cxOf (L2.CX P w) P w K mg base ["row"] "lowered" (defScope s14) f cdv A0 outer s H E) (mkZ w K cla fa) (lvl prg n)) :
    MB (cxOf (L2.CX P w) P w K mg base ["row"] "lowered" (defScope s14) f cdv A0 outer s H E) (mkZ w K cla fa) (lvl prg n) W (defBody s14) ir14 :=
  (mb_cons M (ms_ife M (mt_cmp M (me_ix M (me_var M 0) (me_int M)) (me_str M)) (mb_cons M (ms_ret M (me_call M (ma_cons M (me_bin M (me_ix M (me_var M 0) (me_int M)) (me_int M)) (ma_nil M))))
  (mb_nil M)) (mb_nil M))
  (mb_cons M (ms_ife M (mt_cmp M (me_ix M (me_var M 0) (me_int M)) (me_str M)) (mb_cons M (ms_ret M (me_call M (ma_cons M (me_call M (ma_cons M (me_ix M (me_var M 0) (me_int M)) (ma_nil M))) (ma_cons M (me_call M (ma_cons M (me_ix M (me_var M 0) (me_int M)) (ma_nil M))) (ma_nil M)))))
  (mb_nil M)) (mb_nil M))
  (mb_cons M (ms_ret M (me_var M 0))
  (mb_nil M))))
theorem d15 {P : Program} {w : World} {mg : Str → Option Value} {base : Heap} {f : Addr} {cdv : Value} {A0 : Around} {outer : List PySem.Env} {s : Shared} {H : Hp} {E : XK} (M : Mx (cxOf (L2.CX P w) P w K mg base ["row", "one", "other"] "without" (defScope s15) f cdv A0 outer s H E) (mkZ w K cla fa) (lvl prg n) (k + 2) W false) (A : XA (cxOf (L2.CX P w) P w K mg base ["row", "one", "other"] "without" (defScope s15) f cdv A0 outer s H E) (mkZ w K cla fa) (lvl prg n)) :
    MB (cxOf (L2.CX P w) P w K mg base ["row", "one", "other"] "without" (defScope s15) f cdv A0 outer s H E) (mkZ w K cla fa) (lvl prg n) W (defBody s15) ir15 :=
  (mb_cons M (ms_ife M (mt_cmp M (me_var M 0) (me_con M 9)) (mb_cons M (ms_ret M (me_tup M (ma_cons M (me_str M) (ma_cons M (me_str M) (ma_nil M)))))
  (mb_nil M)) (mb_nil M))
  (mb_cons M (ms_ife M (mt_not M (mt_of M (me_call M (ma_cons M (me_var M 0) (ma_nil M))))) (mb_cons M (ms_ret M (me_call M (ma_cons M (me_tup M (ma_cons M (me_str M) (ma_cons M (me_str M) (ma_nil M)))) (ma_cons M (me_call M (ma_cons M (me_var M 0) (ma_nil M))) (ma_nil M)))))
  (mb_nil M)) (mb_nil M))
  (mb_cons M (ms_unp M (mg_tup M (mg_cons M (mg_cons M (mg_nil M)))) (me_slc M (me_var M 0) (mo_some M (me_int M)) (mo_none M)))
  (mb_cons M (ms_ife M (mt_not M (mt_of M (me_call M (ma_cons M (me_var M 1) (ma_nil M))))) (mb_cons M (ms_ife M (mt_cmp M (me_var M 2) (me_con M 9)) (mb_cons M (ms_ret M (me_call M (ma_cons M (me_var M 1) (ma_nil M))))
  (mb_nil M)) (mb_nil M))
  (mb_cons M (ms_ret M (me_call M (ma_cons M (me_call M (ma_cons M (me_tup M (ma_cons M (me_str M) (ma_cons M (me_str M) (ma_nil M)))) (ma_cons M (me_call M (ma_cons M (me_var M 1) (ma_nil M))) (ma_nil M)))) (ma_cons M (me_call M (ma_cons M (me_var M 2) (ma_nil M))) (ma_nil M)))))
  (mb_nil M))) (mb_nil M))
  (mb_cons M (ms_ife M (mt_not M (mt_of M (me_call M (ma_cons M (me_var M 2) (ma_nil M))))) (mb_cons M (ms_ret M (me_call M (ma_cons M (me_call M (ma_cons M (me_tup M (ma_cons M (me_str M) (ma_cons M (me_str M) (ma_nil M)))) (ma_cons M (me_call M (ma_cons M (me_var M 1) (ma_nil M))) (ma_nil M)))) (ma_cons M (me_call M (ma_cons M (me_var M 2) (ma_nil M))) (ma_nil M)))))
  (mb_nil M)) (mb_nil M))
  (mb_cons M (ms_ret M (me_call M (ma_cons M (me_call M (ma_cons M (me_tup M (ma_cons M (me_str M) (ma_cons M (me_str M) (ma_nil M)))) (ma_cons M (me_call M (ma_cons M (me_var M 1) (ma_nil M))) (ma_nil M)))) (ma_cons M (me_call M (ma_cons M (me_var M 2) (ma_nil M))) (ma_nil M)))))
  (mb_nil M)))))))
theorem d16 {P : Program} {w : World} {mg : Str → Option Value} {base : Heap} {f : Addr} {cdv : Value} {A0 : Around} {outer : List PySem.Env} {s : Shared} {H : Hp} {E : XK} (M : Mx (cxOf (L2.CX P w) P w K mg base ["part"] "row_of_part" (defScope s16) f cdv A0 outer s H E) (mkZ w K cla fa) (lvl prg n) (k + 2) W false) (A : XA (cxOf (L2.CX P w) P w K mg base ["part"] "row_of_part" (defScope s16) f cdv A0 outer s H E) (mkZ w K cla fa) (lvl prg n)) :
    MB (cxOf (L2.CX P w) P w K mg base ["part"] "row_of_part" (defScope s16) f cdv A0 outer s H E) (mkZ w K cla fa) (lvl prg n) W (defBody s16) ir16 :=
  (mb_cons M (ms_ife M (mt_cmp M (me_ix M (me_var M 0) (me_int M)) (me_str M)) (mb_cons M (ms_ret M (me_call M (ma_cons M (me_call M (ma_cons M (me_call M (ma_cons M (me_ix M (me_var M 0) (me_int M)) (ma_nil M))) (ma_nil M))) (ma_nil M))))
  (mb_nil M)) (mb_nil M))
  (mb_cons M (ms_ife M (mt_cmp M (me_ix M (me_var M 0) (me_int M)) (me_str M)) (mb_cons M (ms_ret M (me_call M (ma_cons M (me_call M (ma_cons M (me_call M (ma_cons M (me_ix M (me_var M 0) (me_int M)) (ma_nil M))) (ma_cons M (me_call M (ma_cons M (me_ix M (me_var M 0) (me_int M)) (ma_nil M))) (ma_nil M)))) (ma_nil M))))
  (mb_nil M)) (mb_nil M))
  (mb_cons M (ms_ret M (me_var M 0))
  (mb_nil M))))
theorem d17 {P : Program} {w : World} {mg : Str → Option Value} {base : Heap} {f : Addr} {cdv : Value} {A0 : Around} {outer : List PySem.Env} {s : Shared} {H : Hp} {E : XK} (M : Mx (cxOf (L2.CX P w) P w K mg base ["term"] "combinators_of" (defScope s17) f cdv A0 outer s H E) (mkZ w K cla fa) (lvl prg n) (k + 2) W false) (A : XA (cxOf (L2.CX P w) P w K mg base ["term"] "combinators_of" (defScope s17) f cdv A0 outer s H E) (mkZ w K cla fa) (lvl prg n)) :
    MB (cxOf (L2.CX P w) P w K mg base ["term"] "combinators_of" (defScope s17) f cdv A0 outer s H E) (mkZ w K cla fa) (lvl prg n) W (defBody s17) ir17 :=
  (mb_cons M (ms_ex M (me_call M (ma_cons M (me_var M 0) (ma_nil M))))
  (mb_cons M (ms_ret M (me_call M (ma_cons M (me_var M 0) (ma_nil M))))
  (mb_nil M)))
theorem d18 {P : Program} {w : World} {mg : Str → Option Value} {base : Heap} {f : Addr} {cdv : Value} {A0 : Around} {outer : List PySem.Env} {s : Shared} {H : Hp} {E : XK} (M : Mx (cxOf (L2.CX P w) P w K mg base ["row", "known"] "meant" (defScope s18) f cdv A0 outer s H E) (mkZ w K cla fa) (lvl prg n) (k + 2) W false) (A : XA (cxOf (L2.CX P w) P w K mg base ["row", "known"] "meant" (defScope s18) f cdv A0 outer s H E) (mkZ w K cla fa) (lvl prg n)) :
    MB (cxOf (L2.CX P w) P w K mg base ["row", "known"] "meant" (defScope s18) f cdv A0 outer s H E) (mkZ w K cla fa) (lvl prg n) W (defBody s18) ir18 :=
  (mb_cons M (ms_ife M (mt_cmp M (me_ix M (me_var M 0) (me_int M)) (me_str M)) (mb_cons M (ms_ret M (me_call M (ma_cons M (me_call M (ma_cons M (me_ix M (me_var M 0) (me_int M)) (ma_cons M (me_var M 1) (ma_nil M)))) (ma_cons M (me_call M (ma_cons M (me_ix M (me_var M 0) (me_int M)) (ma_cons M (me_var M 1) (ma_nil M)))) (ma_nil M)))))
  (mb_nil M)) (mb_nil M))
  (mb_cons M (ms_ife M (mt_cmp M (me_ix M (me_var M 0) (me_int M)) (me_str M)) (mb_cons M (ms_ret M (me_ix M (me_var M 1) (me_ix M (me_var M 0) (me_int M))))
  (mb_nil M)) (mb_nil M))
  (mb_cons M (ms_ret M (me_var M 0))
  (mb_nil M))))
theorem d19 {P : Program} {w : World} {mg : Str → Option Value} {base : Heap} {f : Addr} {cdv : Value} {A0 : Around} {outer : List PySem.Env} {s : Shared} {H : Hp} {E : XK} (M : Mx (cxOf (L2.CX P w) P w K mg base ["row"] "term_of" (defScope s19) f cdv A0 outer s H E) (mkZ w K cla fa) (lvl prg n) (k + 2) W false) (A : XA (cxOf (L2.CX P w) P w K mg base ["row"] "term_of" (defScope s19) f cdv A0 outer s H E) (mkZ w K cla fa) (lvl prg n)) :
    MB (cxOf (L2.CX P w) P w K mg base ["row"] "term_of" (defScope s19) f cdv A0 outer s H E) (mkZ w K cla fa) (lvl prg n) W (defBody s19) ir19 :=
  (mb_cons M (ms_ex M (me_call M (ma_cons M (me_var M 0) (ma_nil M))))
  (mb_cons M (ms_ret M (me_call M (ma_cons M (me_call M (ma_cons M (me_var M 0) (ma_cons M (me_call0 M) (ma_nil M)))) (ma_nil M))))
  (mb_nil M)))
theorem d20 {P : Program} {w : World} {mg : Str → Option Value} {base : Heap} {f : Addr} {cdv : Value} {A0 : Around} {outer : List PySem.Env} {s : Shared} {H : Hp} {E : XK} (M : Mx (cxOf (L2.CX P w) P w K mg base ["script", "seed", "cell"] "_law_tape" (defScope s20) f cdv A0 outer s H E) (mkZ w K cla fa) (lvl prg n) (k + 2) W false) (A : XA (cxOf (L2.CX P w) P w K mg base ["script", "seed", "cell"] "_law_tape" (defScope s20) f cdv A0 outer s H E) (mkZ w K cla fa) (lvl prg n)) :
    MB (cxOf (L2.CX P w) P w K mg base ["script", "seed", "cell"] "_law_tape" (defScope s20) f cdv A0 outer s H E) (mkZ w K cla fa) (lvl prg n) W (defBody s20) ir20 :=
  (mb_cons M (ms_set M 1 (me_int M))
  (mb_cons M (ms_for M (mi_sq M (me_var M 0)) (mg_name M 2) (mb_cons M (ms_set M 1 (me_bin M (me_bi M (ma_cons M (me_bin M (me_bin M (me_var M 1) (me_int M)) (me_var M 2)) (ma_nil M))) (me_int M)))
  (mb_nil M)))
  (mb_cons M (ms_ret M (me_lst M (ma_cons M (me_lc M [("cell", 2)] (mi_sq M (me_var M 0)) (fun _ _ _ _ _ M => (mg_name M 2)) (fun _ _ _ _ _ M => mc_none) (fun _ _ _ _ _ M => (me_bi M (ma_cons M (me_bi M (ma_cons M (me_var M 2) (ma_nil M))) (ma_nil M))))) (ma_cons M (me_bin M (me_var M 1) (me_int M)) (ma_nil M)))))
  (mb_nil M))))
theorem d21 {P : Program} {w : World} {mg : Str → Option Value} {base : Heap} {f : Addr} {cdv : Value} {A0 : Around} {outer : List PySem.Env} {s : Shared} {H : Hp} {E : XK} (M : Mx (cxOf (L2.CX P w) P w K mg base ["tape", "many", "cells", "number"] "_law_draw" (defScope s21) f cdv A0 outer s H E) (mkZ w K cla fa) (lvl prg n) (k + 2) W false) (A : XA (cxOf (L2.CX P w) P w K mg base ["tape", "many", "cells", "number"] "_law_draw" (defScope s21) f cdv A0 outer s H E) (mkZ w K cla fa) (lvl prg n)) :
    MB (cxOf (L2.CX P w) P w K mg base ["tape", "many", "cells", "number"] "_law_draw" (defScope s21) f cdv A0 outer s H E) (mkZ w K cla fa) (lvl prg n) W (defBody s21) ir21 :=
  (mb_cons M (ms_set M 2 (me_ix M (me_var M 0) (me_int M)))
  (mb_cons M (ms_whl M (mt_w M (mw_and M (mt_cmp M (me_bi M (ma_cons M (me_var M 2) (ma_nil M))) (me_int M)) (mw_and1 M (mt_cmp M (me_ix M (me_var M 2) (me_int M)) (me_int M))))) (mb_cons M (ms_ex M (me_pop1 M (me_var M 2) (me_int M)))
  (mb_nil M)))
  (mb_cons M (ms_ife M (mt_cmp M (me_bi M (ma_cons M (me_var M 2) (ma_nil M))) (me_int M)) (mb_cons M (ms_set M 3 (me_ix M (me_var M 2) (me_int M)))
  (mb_cons M (ms_setix M (me_bin M (me_var M 3) (me_var M 1)) (me_var M 2) (me_int M))
  (mb_cons M (ms_ret M (me_bin M (me_bi M (ma_cons M (me_var M 3) (ma_nil M))) (me_var M 1)))
  (mb_nil M)))) (mb_nil M))
  (mb_cons M (ms_setix M (me_bin M (me_bi M (ma_cons M (me_bin M (me_bin M (me_ix M (me_var M 0) (me_int M)) (me_int M)) (me_int M)) (ma_nil M))) (me_int M)) (me_var M 0) (me_int M))
  (mb_cons M (ms_ret M (me_bin M (me_bi M (ma_cons M (me_bin M (me_ix M (me_var M 0) (me_int M)) (me_int M)) (ma_nil M))) (me_var M 1)))
  (mb_nil M))))))
theorem d22 {P : Program} {w : World} {mg : Str → Option Value} {base : Heap} {f : Addr} {cdv : Value} {A0 : Around} {outer : List PySem.Env} {s : Shared} {H : Hp} {E : XK} (M : Mx (cxOf (L2.CX P w) P w K mg base ["tape", "row"] "_law_pick" (defScope s22) f cdv A0 outer s H E) (mkZ w K cla fa) (lvl prg n) (k + 2) W false) (A : XA (cxOf (L2.CX P w) P w K mg base ["tape", "row"] "_law_pick" (defScope s22) f cdv A0 outer s H E) (mkZ w K cla fa) (lvl prg n)) :
    MB (cxOf (L2.CX P w) P w K mg base ["tape", "row"] "_law_pick" (defScope s22) f cdv A0 outer s H E) (mkZ w K cla fa) (lvl prg n) W (defBody s22) ir22 :=
  (mb_cons M (ms_ret M (me_ix M (me_var M 1) (me_call M (ma_cons M (me_var M 0) (ma_cons M (me_bi M (ma_cons M (me_var M 1) (ma_nil M))) (ma_nil M))))))
  (mb_nil M))
theorem d23 {P : Program} {w : World} {mg : Str → Option Value} {base : Heap} {f : Addr} {cdv : Value} {A0 : Around} {outer : List PySem.Env} {s : Shared} {H : Hp} {E : XK} (M : Mx (cxOf (L2.CX P w) P w K mg base ["told", "due", "k"] "_law_same" (defScope s23) f cdv A0 outer s H E) (mkZ w K cla fa) (lvl prg n) (k + 2) W false) (A : XA (cxOf (L2.CX P w) P w K mg base ["told", "due", "k"] "_law_same" (defScope s23) f cdv A0 outer s H E) (mkZ w K cla fa) (lvl prg n)) :
    MB (cxOf (L2.CX P w) P w K mg base ["told", "due", "k"] "_law_same" (defScope s23) f cdv A0 outer s H E) (mkZ w K cla fa) (lvl prg n) W (defBody s23) ir23 :=
  (mb_cons M (ms_ife M (mt_cmp M (me_var M 1) (me_non M)) (mb_cons M (ms_ret M (me_cmp M (me_var M 0) (me_non M)))
  (mb_nil M)) (mb_nil M))
  (mb_cons M (ms_ife M (mt_of M (me_isi M (me_var M 1))) (mb_cons M (ms_ret M (me_and M (me_isi M (me_var M 0)) (me_one M (me_cmp M (me_var M 0) (me_var M 1)))))
  (mb_nil M)) (mb_nil M))
  (mb_cons M (ms_ife M (mt_of M (me_isi M (me_var M 1))) (mb_cons M (ms_ret M (me_and M (me_isi M (me_var M 0)) (me_and M (me_not M (me_isi M (me_var M 0))) (me_one M (me_cmp M (me_var M 0) (me_var M 1))))))
  (mb_nil M)) (mb_nil M))
  (mb_cons M (ms_ife M (mt_of M (me_isi M (me_var M 1))) (mb_cons M (ms_ret M (me_and M (me_isi M (me_var M 0)) (me_one M (me_cmp M (me_var M 0) (me_var M 1)))))
  (mb_nil M)) (mb_nil M))
  (mb_cons M (ms_ife M (mt_w M (mw_or M (mt_cmp M (me_isi M (me_var M 1)) (me_isi M (me_var M 0))) (mw_or1 M (mt_cmp M (me_isi M (me_var M 1)) (me_isi M (me_var M 0)))))) (mb_cons M (ms_ret M (me_bl M))
  (mb_nil M)) (mb_nil M))
  (mb_cons M (ms_ife M (mt_w M (mw_or M (mt_not M (mt_of M (me_isi2 M (me_var M 0)))) (mw_or1 M (mt_cmp M (me_bi M (ma_cons M (me_var M 0) (ma_nil M))) (me_bi M (ma_cons M (me_var M 1) (ma_nil M))))))) (mb_cons M (ms_ret M (me_bl M))
  (mb_nil M)) (mb_nil M))
  (mb_cons M (ms_ret M (me_cmp M (me_bl M) (me_lc M [("k", 2)] (mi_rng M (me_bi M (ma_cons M (me_var M 1) (ma_nil M)))) (fun _ _ _ _ _ M => (mg_name M 2)) (fun _ _ _ _ _ M => mc_none) (fun _ _ _ _ _ M => (me_call M (ma_cons M (me_ix M (me_var M 0) (me_var M 2)) (ma_cons M (me_ix M (me_var M 1) (me_var M 2)) (ma_nil M))))))))
  (mb_nil M))))))))
theorem d24 {P : Program} {w : World} {mg : Str → Option Value} {base : Heap} {f : Addr} {cdv : Value} {A0 : Around} {outer : List PySem.Env} {s : Shared} {H : Hp} {E : XK} (M : Mx (cxOf (L2.CX P w) P w K mg base ["tape", "around", "size", "pick", "left"] "_law_part" (defScope s24) f cdv A0 outer s H E) (mkZ w K cla fa) (lvl prg n) (k + 2) W false) (A : XA (cxOf (L2.CX P w) P w K mg base ["tape", "around", "size", "pick", "left"] "_law_part" (defScope s24) f cdv A0 outer s H E) (mkZ w K cla fa) (lvl prg n)) :
    MB (cxOf (L2.CX P w) P w K mg base ["tape", "around", "size", "pick", "left"] "_law_part" (defScope s24) f cdv A0 outer s H E) (mkZ w K cla fa) (lvl prg n) W (defBody s24) ir24 :=
  (mb_cons M (ms_set M 3 (me_call M (ma_cons M (me_var M 0) (ma_cons M (me_int M) (ma_nil M)))))
  (mb_cons M (ms_ife M (mt_w M (mw_or M (mt_cmp M (me_var M 2) (me_int M)) (mw_or1 M (mt_cmp M (me_var M 3) (me_int M))))) (mb_cons M (ms_ife M (mt_w M (mw_and M (mt_cmp M (me_var M 1) (me_int M)) (mw_and1 M (mt_cmp M (me_call M (ma_cons M (me_var M 0) (ma_cons M (me_int M) (ma_nil M)))) (me_int M))))) (mb_cons M (ms_ret M (me_tup M (ma_cons M (me_str M) (ma_cons M (me_call M (ma_cons M (me_var M 0) (ma_cons M (me_var M 1) (ma_nil M)))) (ma_nil M)))))
  (mb_nil M)) (mb_nil M))
  (mb_cons M (ms_ret M (me_tup M (ma_cons M (me_str M) (ma_cons M (me_call M (ma_cons M (me_var M 0) (ma_cons M (me_lst M (ma_cons M (me_str M) (ma_cons M (me_str M) (ma_cons M (me_str M) (ma_nil M))))) (ma_nil M)))) (ma_nil M)))))
  (mb_nil M))) (mb_nil M))
  (mb_cons M (ms_ife M (mt_cmp M (me_var M 3) (me_int M)) (mb_cons M (ms_ret M (me_tup M (ma_cons M (me_str M) (ma_cons M (me_call M (ma_cons M (me_var M 0) (ma_cons M (me_bin M (me_var M 1) (me_int M)) (ma_cons M (me_bin M (me_var M 2) (me_int M)) (ma_nil M))))) (ma_nil M)))))
  (mb_nil M)) (mb_nil M))
  (mb_cons M (ms_set M 4 (me_bin M (me_int M) (me_call M (ma_cons M (me_var M 0) (ma_cons M (me_bin M (me_var M 2) (me_int M)) (ma_nil M))))))
  (mb_cons M (ms_ret M (me_tup M (ma_cons M (me_str M) (ma_cons M (me_call M (ma_cons M (me_var M 0) (ma_cons M (me_var M 1) (ma_cons M (me_var M 4) (ma_nil M))))) (ma_cons M (me_call M (ma_cons M (me_var M 0) (ma_cons M (me_var M 1) (ma_cons M (me_bin M (me_var M 2) (me_var M 4)) (ma_nil M))))) (ma_nil M))))))
  (mb_nil M))))))
theorem d25 {P : Program} {w : World} {mg : Str → Option Value} {base : Heap} {f : Addr} {cdv : Value} {A0 : Around} {outer : List PySem.Env} {s : Shared} {H : Hp} {E : XK} (M : Mx (cxOf (L2.CX P w) P w K mg base ["many", "body", "k"] "_law_funs" (defScope s25) f cdv A0 outer s H E) (mkZ w K cla fa) (lvl prg n) (k + 2) W false) (A : XA (cxOf (L2.CX P w) P w K mg base ["many", "body", "k"] "_law_funs" (defScope s25) f cdv A0 outer s H E) (mkZ w K cla fa) (lvl prg n)) :
    MB (cxOf (L2.CX P w) P w K mg base ["many", "body", "k"] "_law_funs" (defScope s25) f cdv A0 outer s H E) (mkZ w K cla fa) (lvl prg n) W (defBody s25) ir25 :=
  (mb_cons M (ms_for M (mi_rng M (me_var M 0)) (mg_name M 2) (mb_cons M (ms_set M 1 (me_tup M (ma_cons M (me_str M) (ma_cons M (me_var M 1) (ma_nil M)))))
  (mb_nil M)))
  (mb_cons M (ms_ret M (me_var M 1))
  (mb_nil M)))
theorem d26 {P : Program} {w : World} {mg : Str → Option Value} {base : Heap} {f : Addr} {cdv : Value} {A0 : Around} {outer : List PySem.Env} {s : Shared} {H : Hp} {E : XK} (M : Mx (cxOf (L2.CX P w) P w K mg base ["head", "args", "one"] "_law_calls" (defScope s26) f cdv A0 outer s H E) (mkZ w K cla fa) (lvl prg n) (k + 2) W false) (A : XA (cxOf (L2.CX P w) P w K mg base ["head", "args", "one"] "_law_calls" (defScope s26) f cdv A0 outer s H E) (mkZ w K cla fa) (lvl prg n)) :
    MB (cxOf (L2.CX P w) P w K mg base ["head", "args", "one"] "_law_calls" (defScope s26) f cdv A0 outer s H E) (mkZ w K cla fa) (lvl prg n) W (defBody s26) ir26 :=
  (mb_cons M (ms_for M (mi_sq M (me_var M 1)) (mg_name M 2) (mb_cons M (ms_set M 0 (me_tup M (ma_cons M (me_str M) (ma_cons M (me_var M 0) (ma_cons M (me_var M 2) (ma_nil M))))))
  (mb_nil M)))
  (mb_cons M (ms_ret M (me_var M 0))
  (mb_nil M)))
theorem d27 {P : Program} {w : World} {mg : Str → Option Value} {base : Heap} {f : Addr} {cdv : Value} {A0 : Around} {outer : List PySem.Env} {s : Shared} {H : Hp} {E : XK} (M : Mx (cxOf (L2.CX P w) P w K mg base ["n", "body", "k"] "_law_number" (defScope s27) f cdv A0 outer s H E) (mkZ w K cla fa) (lvl prg n) (k + 2) W false) (A : XA (cxOf (L2.CX P w) P w K mg base ["n", "body", "k"] "_law_number" (defScope s27) f cdv A0 outer s H E) (mkZ w K cla fa) (lvl prg n)) :
    MB (cxOf (L2.CX P w) P w K mg base ["n", "body", "k"] "_law_number" (defScope s27) f cdv A0 outer s H E) (mkZ w K cla fa) (lvl prg n) W (defBody s27) ir27 :=
  (mb_cons M (ms_set M 1 (me_tup M (ma_cons M (me_str M) (ma_cons M (me_int M) (ma_nil M)))))
  (mb_cons M (ms_for M (mi_rng M (me_var M 0)) (mg_name M 2) (mb_cons M (ms_set M 1 (me_tup M (ma_cons M (me_str M) (ma_cons M (me_tup M (ma_cons M (me_str M) (ma_cons M (me_int M) (ma_nil M)))) (ma_cons M (me_var M 1) (ma_nil M))))))
  (mb_nil M)))
  (mb_cons M (ms_ret M (me_tup M (ma_cons M (me_str M) (ma_cons M (me_tup M (ma_cons M (me_str M) (ma_cons M (me_var M 1) (ma_nil M)))) (ma_nil M)))))
  (mb_nil M))))
theorem d28 {P : Program} {w : World} {mg : Str → Option Value} {base : Heap} {f : Addr} {cdv : Value} {A0 : Around} {outer : List PySem.Env} {s : Shared} {H : Hp} {E : XK} (M : Mx (cxOf (L2.CX P w) P w K mg base ["tape", "one", "twice", "true", "false", "times", "plus", "found"] "_law_known" (defScope s28) f cdv A0 outer s H E) (mkZ w K cla fa) (lvl prg n) (k + 2) W false) (A : XA (cxOf (L2.CX P w) P w K mg base ["tape", "one", "twice", "true", "false", "times", "plus", "found"] "_law_known" (defScope s28) f cdv A0 outer s H E) (mkZ w K cla fa) (lvl prg n)) :
    MB (cxOf (L2.CX P w) P w K mg base ["tape", "one", "twice", "true", "false", "times", "plus", "found"] "_law_known" (defScope s28) f cdv A0 outer s H E) (mkZ w K cla fa) (lvl prg n) W (defBody s28) ir28 :=
  (mb_cons M (ms_set M 1 (me_tup M (ma_cons M (me_str M) (ma_cons M (me_tup M (ma_cons M (me_str M) (ma_cons M (me_int M) (ma_nil M)))) (ma_nil M)))))
  (mb_cons M (ms_set M 2 (me_tup M (ma_cons M (me_str M) (ma_cons M (me_tup M (ma_cons M (me_str M) (ma_cons M (me_tup M (ma_cons M (me_str M) (ma_cons M (me_int M) (ma_nil M)))) (ma_cons M (me_tup M (ma_cons M (me_str M) (ma_cons M (me_int M) (ma_nil M)))) (ma_nil M))))) (ma_nil M)))))
  (mb_cons M (ms_set M 3 (me_tup M (ma_cons M (me_str M) (ma_cons M (me_tup M (ma_cons M (me_str M) (ma_cons M (me_tup M (ma_cons M (me_str M) (ma_cons M (me_int M) (ma_nil M)))) (ma_nil M)))) (ma_nil M)))))
  (mb_cons M (ms_set M 4 (me_tup M (ma_cons M (me_str M) (ma_cons M (me_tup M (ma_cons M (me_str M) (ma_cons M (me_tup M (ma_cons M (me_str M) (ma_cons M (me_int M) (ma_nil M)))) (ma_nil M)))) (ma_nil M)))))
  (mb_cons M (ms_set M 5 (me_call M (ma_cons M (me_int M) (ma_cons M (me_tup M (ma_cons M (me_str M) (ma_cons M (me_tup M (ma_cons M (me_str M) (ma_cons M (me_int M) (ma_nil M)))) (ma_cons M (me_tup M (ma_cons M (me_str M) (ma_cons M (me_tup M (ma_cons M (me_str M) (ma_cons M (me_int M) (ma_nil M)))) (ma_cons M (me_tup M (ma_cons M (me_str M) (ma_cons M (me_int M) (ma_nil M)))) (ma_nil M))))) (ma_nil M))))) (ma_nil M)))))
  (mb_cons M (ms_set M 6 (me_call M (ma_cons M (me_int M) (ma_cons M (me_call M (ma_cons M (me_tup M (ma_cons M (me_str M) (ma_cons M (me_int M) (ma_nil M)))) (ma_cons M (me_lst M (ma_cons M (me_tup M (ma_cons M (me_str M) (ma_cons M (me_int M) (ma_nil M)))) (ma_cons M (me_call M (ma_cons M (me_tup M (ma_cons M (me_str M) (ma_cons M (me_int M) (ma_nil M)))) (ma_cons M (me_lst M (ma_cons M (me_tup M (ma_cons M (me_str M) (ma_cons M (me_int M) (ma_nil M)))) (ma_cons M (me_tup M (ma_cons M (me_str M) (ma_cons M (me_int M) (ma_nil M)))) (ma_nil M)))) (ma_nil M)))) (ma_nil M)))) (ma_nil M)))) (ma_nil M)))))
  (mb_cons M (ms_set M 7 (me_lst M (ma_cons M (me_var M 1) (ma_cons M (me_var M 2) (ma_cons M (me_var M 3) (ma_cons M (me_var M 4) (ma_cons M (me_var M 5) (ma_cons M (me_var M 6) (ma_cons M (me_tup M (ma_cons M (me_str M) (ma_cons M (me_var M 2) (ma_cons M (me_var M 2) (ma_nil M))))) (ma_cons M (me_call M (ma_cons M (me_call M (ma_cons M (me_var M 0) (ma_cons M (me_int M) (ma_nil M)))) (ma_nil M))) (ma_cons M (me_call M (ma_cons M (me_int M) (ma_nil M))) (ma_nil M))))))))))))
  (mb_cons M (ms_ex M (me_append M (me_var M 7) (me_call M (ma_cons M (me_int M) (ma_cons M (me_call M (ma_cons M (me_tup M (ma_cons M (me_str M) (ma_cons M (me_int M) (ma_nil M)))) (ma_cons M (me_lst M (ma_cons M (me_tup M (ma_cons M (me_str M) (ma_cons M (me_int M) (ma_nil M)))) (ma_cons M (me_tup M (ma_cons M (me_str M) (ma_cons M (me_tup M (ma_cons M (me_str M) (ma_cons M (me_int M) (ma_nil M)))) (ma_cons M (me_tup M (ma_cons M (me_str M) (ma_cons M (me_int M) (ma_nil M)))) (ma_nil M))))) (ma_nil M)))) (ma_nil M)))) (ma_nil M))))))
  (mb_cons M (ms_ret M (me_call M (ma_cons M (me_var M 0) (ma_cons M (me_var M 7) (ma_nil M)))))
  (mb_nil M))))))))))
theorem d29 {P : Program} {w : World} {mg : Str → Option Value} {base : Heap} {f : Addr} {cdv : Value} {A0 : Around} {outer : List PySem.Env} {s : Shared} {H : Hp} {E : XK} (M : Mx (cxOf (L2.CX P w) P w K mg base ["tape", "size", "pick", "k"] "_law_term" (defScope s29) f cdv A0 outer s H E) (mkZ w K cla fa) (lvl prg n) (k + 2) W false) (A : XA (cxOf (L2.CX P w) P w K mg base ["tape", "size", "pick", "k"] "_law_term" (defScope s29) f cdv A0 outer s H E) (mkZ w K cla fa) (lvl prg n)) :
    MB (cxOf (L2.CX P w) P w K mg base ["tape", "size", "pick", "k"] "_law_term" (defScope s29) f cdv A0 outer s H E) (mkZ w K cla fa) (lvl prg n) W (defBody s29) ir29 :=
  (mb_cons M (ms_set M 2 (me_call M (ma_cons M (me_var M 0) (ma_cons M (me_int M) (ma_nil M)))))
  (mb_cons M (ms_ife M (mt_cmp M (me_var M 2) (me_int M)) (mb_cons M (ms_ret M (me_call M (ma_cons M (me_call M (ma_cons M (me_var M 0) (ma_nil M))) (ma_cons M (me_lc M [("k", 3)] (mi_rng M (me_call M (ma_cons M (me_var M 0) (ma_cons M (me_int M) (ma_nil M))))) (fun _ _ _ _ _ M => (mg_name M 3)) (fun _ _ _ _ _ M => mc_none) (fun _ _ _ _ _ M => (me_call M (ma_cons M (me_var M 0) (ma_nil M))))) (ma_nil M)))))
  (mb_nil M)) (mb_nil M))
  (mb_cons M (ms_ife M (mt_cmp M (me_var M 2) (me_int M)) (mb_cons M (ms_ret M (me_call M (ma_cons M (me_call M (ma_cons M (me_var M 0) (ma_nil M))) (ma_cons M (me_lc M [("k", 3)] (mi_rng M (me_bin M (me_int M) (me_call M (ma_cons M (me_var M 0) (ma_cons M (me_int M) (ma_nil M)))))) (fun _ _ _ _ _ M => (mg_name M 3)) (fun _ _ _ _ _ M => mc_none) (fun _ _ _ _ _ M => (me_call M (ma_cons M (me_var M 0) (ma_cons M (me_int M) (ma_cons M (me_bin M (me_int M) (me_call M (ma_cons M (me_var M 0) (ma_cons M (me_var M 1) (ma_nil M))))) (ma_nil M))))))) (ma_nil M)))))
  (mb_nil M)) (mb_nil M))
  (mb_cons M (ms_ret M (me_call M (ma_cons M (me_var M 0) (ma_cons M (me_int M) (ma_cons M (me_bin M (me_int M) (me_call M (ma_cons M (me_var M 0) (ma_cons M (me_var M 1) (ma_nil M))))) (ma_nil M))))))
  (mb_nil M)))))
theorem d30 {P : Program} {w : World} {mg : Str → Option Value} {base : Heap} {f : Addr} {cdv : Value} {A0 : Around} {outer : List PySem.Env} {s : Shared} {H : Hp} {E : XK} (M : Mx (cxOf (L2.CX P w) P w K mg base ["t", "rows", "many", "one", "part"] "_law_size" (defScope s30) f cdv A0 outer s H E) (mkZ w K cla fa) (lvl prg n) (k + 2) W false) (A : XA (cxOf (L2.CX P w) P w K mg base ["t", "rows", "many", "one", "part"] "_law_size" (defScope s30) f cdv A0 outer s H E) (mkZ w K cla fa) (lvl prg n)) :
    MB (cxOf (L2.CX P w) P w K mg base ["t", "rows", "many", "one", "part"] "_law_size" (defScope s30) f cdv A0 outer s H E) (mkZ w K cla fa) (lvl prg n) W (defBody s30) ir30 :=
  (mb_cons M (ms_set M 1 (me_lst M (ma_cons M (me_var M 0) (ma_nil M))))
  (mb_cons M (ms_set M 2 (me_int M))
  (mb_cons M (ms_whl M (mt_cmp M (me_bi M (ma_cons M (me_var M 1) (ma_nil M))) (me_int M)) (mb_cons M (ms_set M 3 (me_pop M (me_var M 1)))
  (mb_cons M (ms_set M 2 (me_bin M (me_var M 2) (me_int M)))
  (mb_cons M (ms_ife M (mt_cmp M (me_ix M (me_var M 3) (me_int M)) (me_tup M (ma_cons M (me_str M) (ma_cons M (me_str M) (ma_nil M))))) (mb_cons M (ms_set M 1 (me_bin M (me_var M 1) (me_lc M [("part", 4)] (mi_sq M (me_slc M (me_var M 3) (mo_some M (me_int M)) (mo_none M))) (fun _ _ _ _ _ M => (mg_name M 4)) (fun _ _ _ _ _ M => mc_none) (fun _ _ _ _ _ M => (me_var M 4)))))
  (mb_nil M)) (mb_nil M))
  (mb_nil M)))))
  (mb_cons M (ms_ret M (me_var M 2))
  (mb_nil M)))))
theorem d31 {P : Program} {w : World} {mg : Str → Option Value} {base : Heap} {f : Addr} {cdv : Value} {A0 : Around} {outer : List PySem.Env} {s : Shared} {H : Hp} {E : XK} (M : Mx (cxOf (L2.CX P w) P w K mg base ["t", "deep"] "_law_has" (defScope s31) f cdv A0 outer s H E) (mkZ w K cla fa) (lvl prg n) (k + 2) W false) (A : XA (cxOf (L2.CX P w) P w K mg base ["t", "deep"] "_law_has" (defScope s31) f cdv A0 outer s H E) (mkZ w K cla fa) (lvl prg n)) :
    MB (cxOf (L2.CX P w) P w K mg base ["t", "deep"] "_law_has" (defScope s31) f cdv A0 outer s H E) (mkZ w K cla fa) (lvl prg n) W (defBody s31) ir31 :=
  (mb_cons M (ms_ife M (mt_cmp M (me_ix M (me_var M 0) (me_int M)) (me_str M)) (mb_cons M (ms_ret M (me_cmp M (me_ix M (me_var M 0) (me_int M)) (me_var M 1)))
  (mb_nil M)) (mb_nil M))
  (mb_cons M (ms_ife M (mt_cmp M (me_ix M (me_var M 0) (me_int M)) (me_str M)) (mb_cons M (ms_ret M (me_call M (ma_cons M (me_ix M (me_var M 0) (me_int M)) (ma_cons M (me_bin M (me_var M 1) (me_int M)) (ma_nil M)))))
  (mb_nil M)) (mb_nil M))
  (mb_cons M (ms_ret M (me_and M (me_cmp M (me_ix M (me_var M 0) (me_int M)) (me_str M)) (me_one M (me_or M (me_call M (ma_cons M (me_ix M (me_var M 0) (me_int M)) (ma_cons M (me_var M 1) (ma_nil M)))) (me_one M (me_call M (ma_cons M (me_ix M (me_var M 0) (me_int M)) (ma_cons M (me_var M 1) (ma_nil M)))))))))
  (mb_nil M))))
theorem d32 {P : Program} {w : World} {mg : Str → Option Value} {base : Heap} {f : Addr} {cdv : Value} {A0 : Around} {outer : List PySem.Env} {s : Shared} {H : Hp} {E : XK} (M : Mx (cxOf (L2.CX P w) P w K mg base ["call_v", "value", "error", "told"] "_law_call" (defScope s32) f cdv A0 outer s H E) (mkZ w K cla fa) (lvl prg n) (k + 2) W false) (A : XA (cxOf (L2.CX P w) P w K mg base ["call_v", "value", "error", "told"] "_law_call" (defScope s32) f cdv A0 outer s H E) (mkZ w K cla fa) (lvl prg n)) :
    MB (cxOf (L2.CX P w) P w K mg base ["call_v", "value", "error", "told"] "_law_call" (defScope s32) f cdv A0 outer s H E) (mkZ w K cla fa) (lvl prg n) W (defBody s32) ir32 :=
  (mb_cons M (ms_try M (fun _ _ _ M => (mb_cons M (ms_set M 3 (me_callv M 0 (ma_cons M (me_var M 1) (ma_nil M))))
  (mb_nil M))) (mh_retS M A (mh_retS M A (mh_exf M A 2 (mh_nil M)))))
  (mb_cons M (ms_ret M (me_var M 3))
  (mb_nil M)))
theorem d33 {P : Program} {w : World} {mg : Str → Option Value} {base : Heap} {f : Addr} {cdv : Value} {A0 : Around} {outer : List PySem.Env} {s : Shared} {H : Hp} {E : XK} (M : Mx (cxOf (L2.CX P w) P w K mg base ["c"] "_law_lower" (defScope s33) f cdv A0 outer s H E) (mkZ w K cla fa) (lvl prg n) (k + 2) W false) (A : XA (cxOf (L2.CX P w) P w K mg base ["c"] "_law_lower" (defScope s33) f cdv A0 outer s H E) (mkZ w K cla fa) (lvl prg n)) :
    MB (cxOf (L2.CX P w) P w K mg base ["c"] "_law_lower" (defScope s33) f cdv A0 outer s H E) (mkZ w K cla fa) (lvl prg n) W (defBody s33) ir33 :=
  (mb_cons M (ms_ife M (mt_cmp M (me_ix M (me_var M 0) (me_int M)) (me_str M)) (mb_cons M (ms_ret M (me_tup M (ma_cons M (me_str M) (ma_cons M (me_bin M (me_ix M (me_var M 0) (me_int M)) (me_int M)) (ma_nil M)))))
  (mb_nil M)) (mb_nil M))
  (mb_cons M (ms_ret M (me_ite M (mt_cmp M (me_ix M (me_var M 0) (me_int M)) (me_str M)) (me_tup M (ma_cons M (me_str M) (ma_cons M (me_call M (ma_cons M (me_ix M (me_var M 0) (me_int M)) (ma_nil M))) (ma_cons M (me_call M (ma_cons M (me_ix M (me_var M 0) (me_int M)) (ma_nil M))) (ma_nil M))))) (me_var M 0)))
  (mb_nil M)))
theorem d34 {P : Program} {w : World} {mg : Str → Option Value} {base : Heap} {f : Addr} {cdv : Value} {A0 : Around} {outer : List PySem.Env} {s : Shared} {H : Hp} {E : XK} (M : Mx (cxOf (L2.CX P w) P w K mg base ["c", "a", "b"] "_law_without" (defScope s34) f cdv A0 outer s H E) (mkZ w K cla fa) (lvl prg n) (k + 2) W false) (A : XA (cxOf (L2.CX P w) P w K mg base ["c", "a", "b"] "_law_without" (defScope s34) f cdv A0 outer s H E) (mkZ w K cla fa) (lvl prg n)) :
    MB (cxOf (L2.CX P w) P w K mg base ["c", "a", "b"] "_law_without" (defScope s34) f cdv A0 outer s H E) (mkZ w K cla fa) (lvl prg n) W (defBody s34) ir34 :=
  (mb_cons M (ms_ife M (mt_cmp M (me_var M 0) (me_tup M (ma_cons M (me_str M) (ma_cons M (me_int M) (ma_nil M))))) (mb_cons M (ms_ret M (me_tup M (ma_cons M (me_str M) (ma_cons M (me_str M) (ma_nil M)))))
  (mb_nil M)) (mb_nil M))
  (mb_cons M (ms_ife M (mt_not M (mt_of M (me_call M (ma_cons M (me_var M 0) (ma_cons M (me_int M) (ma_nil M)))))) (mb_cons M (ms_ret M (me_tup M (ma_cons M (me_str M) (ma_cons M (me_tup M (ma_cons M (me_str M) (ma_cons M (me_str M) (ma_nil M)))) (ma_cons M (me_call M (ma_cons M (me_var M 0) (ma_nil M))) (ma_nil M))))))
  (mb_nil M)) (mb_nil M))
  (mb_cons M (ms_par M 1 2 (ma_cons M (me_ix M (me_var M 0) (me_int M)) (ma_cons M (me_ix M (me_var M 0) (me_int M)) (ma_nil M))))
  (mb_cons M (ms_ife M (mt_w M (mw_and M (mt_cmp M (me_var M 2) (me_tup M (ma_cons M (me_str M) (ma_cons M (me_int M) (ma_nil M))))) (mw_and1 M (mt_not M (mt_of M (me_call M (ma_cons M (me_var M 1) (ma_cons M (me_int M) (ma_nil M))))))))) (mb_cons M (ms_ret M (me_call M (ma_cons M (me_var M 1) (ma_nil M))))
  (mb_nil M)) (mb_nil M))
  (mb_cons M (ms_ife M (mt_not M (mt_of M (me_call M (ma_cons M (me_var M 1) (ma_cons M (me_int M) (ma_nil M)))))) (mb_cons M (ms_ret M (me_call M (ma_cons M (me_tup M (ma_cons M (me_str M) (ma_cons M (me_str M) (ma_nil M)))) (ma_cons M (me_lst M (ma_cons M (me_call M (ma_cons M (me_var M 1) (ma_nil M))) (ma_cons M (me_call M (ma_cons M (me_var M 2) (ma_nil M))) (ma_nil M)))) (ma_nil M)))))
  (mb_nil M)) (mb_nil M))
  (mb_cons M (ms_ife M (mt_not M (mt_of M (me_call M (ma_cons M (me_var M 2) (ma_cons M (me_int M) (ma_nil M)))))) (mb_cons M (ms_ret M (me_call M (ma_cons M (me_tup M (ma_cons M (me_str M) (ma_cons M (me_str M) (ma_nil M)))) (ma_cons M (me_lst M (ma_cons M (me_call M (ma_cons M (me_var M 1) (ma_nil M))) (ma_cons M (me_call M (ma_cons M (me_var M 2) (ma_nil M))) (ma_nil M)))) (ma_nil M)))))
  (mb_nil M)) (mb_nil M))
  (mb_cons M (ms_ret M (me_call M (ma_cons M (me_tup M (ma_cons M (me_str M) (ma_cons M (me_str M) (ma_nil M)))) (ma_cons M (me_lst M (ma_cons M (me_call M (ma_cons M (me_var M 1) (ma_nil M))) (ma_cons M (me_call M (ma_cons M (me_var M 2) (ma_nil M))) (ma_nil M)))) (ma_nil M)))))
  (mb_nil M))))))))
theorem d35 {P : Program} {w : World} {mg : Str → Option Value} {base : Heap} {f : Addr} {cdv : Value} {A0 : Around} {outer : List PySem.Env} {s : Shared} {H : Hp} {E : XK} (M : Mx (cxOf (L2.CX P w) P w K mg base ["t"] "_law_made" (defScope s35) f cdv A0 outer s H E) (mkZ w K cla fa) (lvl prg n) (k + 2) W false) (A : XA (cxOf (L2.CX P w) P w K mg base ["t"] "_law_made" (defScope s35) f cdv A0 outer s H E) (mkZ w K cla fa) (lvl prg n)) :
    MB (cxOf (L2.CX P w) P w K mg base ["t"] "_law_made" (defScope s35) f cdv A0 outer s H E) (mkZ w K cla fa) (lvl prg n) W (defBody s35) ir35 :=
  (mb_cons M (ms_ife M (mt_cmp M (me_ix M (me_var M 0) (me_int M)) (me_str M)) (mb_cons M (ms_ret M (me_call M (ma_cons M (me_call M (ma_cons M (me_ix M (me_var M 0) (me_int M)) (ma_nil M))) (ma_nil M))))
  (mb_nil M)) (mb_nil M))
  (mb_cons M (ms_ret M (me_ite M (mt_cmp M (me_ix M (me_var M 0) (me_int M)) (me_str M)) (me_tup M (ma_cons M (me_str M) (ma_cons M (me_call M (ma_cons M (me_ix M (me_var M 0) (me_int M)) (ma_nil M))) (ma_cons M (me_call M (ma_cons M (me_ix M (me_var M 0) (me_int M)) (ma_nil M))) (ma_nil M))))) (me_var M 0)))
  (mb_nil M)))
theorem d36 {P : Program} {w : World} {mg : Str → Option Value} {base : Heap} {f : Addr} {cdv : Value} {A0 : Around} {outer : List PySem.Env} {s : Shared} {H : Hp} {E : XK} (M : Mx (cxOf (L2.CX P w) P w K mg base ["c", "bodies", "x", "y", "z"] "_law_meant" (defScope s36) f cdv A0 outer s H E) (mkZ w K cla fa) (lvl prg n) (k + 2) W false) (A : XA (cxOf (L2.CX P w) P w K mg base ["c", "bodies", "x", "y", "z"] "_law_meant" (defScope s36) f cdv A0 outer s H E) (mkZ w K cla fa) (lvl prg n)) :
    MB (cxOf (L2.CX P w) P w K mg base ["c", "bodies", "x", "y", "z"] "_law_meant" (defScope s36) f cdv A0 outer s H E) (mkZ w K cla fa) (lvl prg n) W (defBody s36) ir36 :=
  (mb_cons M (ms_ife M (mt_cmp M (me_ix M (me_var M 0) (me_int M)) (me_str M)) (mb_cons M (ms_ret M (me_tup M (ma_cons M (me_str M) (ma_cons M (me_call M (ma_cons M (me_ix M (me_var M 0) (me_int M)) (ma_nil M))) (ma_cons M (me_call M (ma_cons M (me_ix M (me_var M 0) (me_int M)) (ma_nil M))) (ma_nil M))))))
  (mb_nil M)) (mb_nil M))
  (mb_cons M (ms_ife M (mt_cmp M (me_ix M (me_var M 0) (me_int M)) (me_str M)) (mb_cons M (ms_ret M (me_var M 0))
  (mb_nil M)) (mb_nil M))
  (mb_cons M (ms_unp M (mg_tup M (mg_cons M (mg_cons M (mg_cons M (mg_nil M))))) (me_tup M (ma_cons M (me_tup M (ma_cons M (me_str M) (ma_cons M (me_int M) (ma_nil M)))) (ma_cons M (me_tup M (ma_cons M (me_str M) (ma_cons M (me_int M) (ma_nil M)))) (ma_cons M (me_tup M (ma_cons M (me_str M) (ma_cons M (me_int M) (ma_nil M)))) (ma_nil M))))))
  (mb_cons M (ms_set M 1 (me_dct M (mp_cons M (me_str M) (me_tup M (ma_cons M (me_str M) (ma_cons M (me_tup M (ma_cons M (me_str M) (ma_cons M (me_var M 2) (ma_cons M (me_var M 4) (ma_nil M))))) (ma_cons M (me_tup M (ma_cons M (me_str M) (ma_cons M (me_var M 3) (ma_cons M (me_var M 4) (ma_nil M))))) (ma_nil M))))) (mp_cons M (me_str M) (me_tup M (ma_cons M (me_str M) (ma_cons M (me_var M 2) (ma_cons M (me_tup M (ma_cons M (me_str M) (ma_cons M (me_var M 3) (ma_cons M (me_var M 4) (ma_nil M))))) (ma_nil M))))) (mp_cons M (me_str M) (me_tup M (ma_cons M (me_str M) (ma_cons M (me_tup M (ma_cons M (me_str M) (ma_cons M (me_var M 2) (ma_cons M (me_var M 4) (ma_nil M))))) (ma_cons M (me_var M 3) (ma_nil M))))) (mp_nil M))))))
  (mb_cons M (ms_ife M (mt_cmp M (me_ix M (me_var M 0) (me_int M)) (me_var M 1)) (mb_cons M (ms_ret M (me_call M (ma_cons M (me_int M) (ma_cons M (me_ix M (me_var M 1) (me_ix M (me_var M 0) (me_int M))) (ma_nil M)))))
  (mb_nil M)) (mb_nil M))
  (mb_cons M (ms_ret M (me_ite M (mt_cmp M (me_ix M (me_var M 0) (me_int M)) (me_str M)) (me_call M (ma_cons M (me_int M) (ma_cons M (me_var M 3) (ma_nil M)))) (me_call M (ma_cons M (me_int M) (ma_cons M (me_var M 4) (ma_nil M))))))
  (mb_nil M)))))))
theorem d37 {P : Program} {w : World} {mg : Str → Option Value} {base : Heap} {f : Addr} {cdv : Value} {A0 : Around} {outer : List PySem.Env} {s : Shared} {H : Hp} {E : XK} (M : Mx (cxOf (L2.CX P w) P w K mg base ["script", "tape", "turn", "term", "due", "told"] "law" (defScope s37) f cdv A0 outer s H E) (mkZ w K cla fa) (lvl prg n) (k + 2) W false) (A : XA (cxOf (L2.CX P w) P w K mg base ["script", "tape", "turn", "term", "due", "told"] "law" (defScope s37) f cdv A0 outer s H E) (mkZ w K cla fa) (lvl prg n)) :
    MB (cxOf (L2.CX P w) P w K mg base ["script", "tape", "turn", "term", "due", "told"] "law" (defScope s37) f cdv A0 outer s H E) (mkZ w K cla fa) (lvl prg n) W (defBody s37) ir37 :=
  (mb_cons M (ms_set M 1 (me_call M (ma_cons M (me_var M 0) (ma_nil M))))
  (mb_cons M (ms_for M (mi_rng M (me_int M)) (mg_name M 2) (mb_cons M (ms_set M 3 (me_call M (ma_cons M (me_var M 1) (ma_cons M (me_int M) (ma_nil M)))))
  (mb_cons M (ms_set M 4 (me_call M (ma_cons M (me_var M 3) (ma_nil M))))
  (mb_cons M (ms_set M 5 (me_call M (ma_cons M (me_fn M) (ma_cons M (me_var M 3) (ma_nil M)))))
  (mb_cons M (ms_ife M (mt_w M (mw_and M (mt_cmp M (me_var M 5) (me_str M)) (mw_and1 M (mt_not M (mt_w M (mw_and M (mt_of M (me_call M (ma_cons M (me_var M 5) (ma_cons M (me_var M 4) (ma_nil M))))) (mw_and1 M (mt_of M (me_call M (ma_cons M (me_var M 5) (ma_nil M))))))))))) (mb_cons M (ms_ret M (me_bl M))
  (mb_nil M)) (mb_nil M))
  (mb_cons M (ms_ife M (mt_w M (mw_and M (mt_cmp M (me_var M 5) (me_str M)) (mw_and1 M (mt_cmp M (me_call M (ma_cons M (me_var M 4) (ma_nil M))) (me_int M))))) (mb_cons M (ms_ret M (me_bl M))
  (mb_nil M)) (mb_nil M))
  (mb_cons M (ms_ife M (mt_w M (mw_and M (mt_cmp M (me_call M (ma_cons M (me_var M 4) (ma_nil M))) (me_int M)) (mw_and1 M (mt_not M (mt_of M (me_call M (ma_cons M (me_call M (ma_cons M (me_fn M) (ma_cons M (me_var M 4) (ma_nil M)))) (ma_cons M (me_call M (ma_cons M (me_var M 4) (ma_nil M))) (ma_nil M))))))))) (mb_cons M (ms_ret M (me_bl M))
  (mb_nil M)) (mb_nil M))
  (mb_cons M (ms_ife M (mt_cmp M (me_call M (ma_cons M (me_fn M) (ma_cons M (me_call M (ma_cons M (me_var M 1) (ma_cons M (me_lst M (ma_cons M (me_non M) (ma_cons M (me_tup M (ma_cons M (me_str M) (ma_cons M (me_int M) (ma_nil M)))) (ma_cons M (me_tup M (ma_cons M (me_str M) (ma_cons M (me_str M) (ma_nil M)))) (ma_cons M (me_tup M (ma_cons M (me_str M) (ma_cons M (me_tup M (ma_cons M (me_str M) (ma_cons M (me_int M) (ma_nil M)))) (ma_nil M)))) (ma_nil M)))))) (ma_nil M)))) (ma_nil M)))) (me_str M)) (mb_cons M (ms_ret M (me_bl M))
  (mb_nil M)) (mb_nil M))
  (mb_cons M (ms_ife M (mt_cmp M (me_call M (ma_cons M (me_fn M) (ma_cons M (me_call M (ma_cons M (me_var M 1) (ma_cons M (me_lst M (ma_cons M (me_non M) (ma_cons M (me_tup M (ma_cons M (me_str M) (ma_cons M (me_int M) (ma_nil M)))) (ma_cons M (me_tup M (ma_cons M (me_str M) (ma_cons M (me_tup M (ma_cons M (me_str M) (ma_cons M (me_int M) (ma_nil M)))) (ma_nil M)))) (ma_cons M (me_tup M (ma_cons M (me_str M) (ma_cons M (me_str M) (ma_nil M)))) (ma_nil M)))))) (ma_nil M)))) (ma_nil M)))) (me_str M)) (mb_cons M (ms_ret M (me_bl M))
  (mb_nil M)) (mb_nil M))
  (mb_nil M))))))))))
  (mb_cons M (ms_ret M (me_bl M))
  (mb_nil M))))
theorem d38 {P : Program} {w : World} {mg : Str → Option Value} {base : Heap} {f : Addr} {cdv : Value} {A0 : Around} {outer : List PySem.Env} {s : Shared} {H : Hp} {E : XK} (M : Mx (cxOf (L2.CX P w) P w K mg base ["self"] "Form.__init__" (defScope s38) f cdv A0 outer s H E) (mkZ w K cla fa) (lvl prg n) (k + 2) W false) (A : XA (cxOf (L2.CX P w) P w K mg base ["self"] "Form.__init__" (defScope s38) f cdv A0 outer s H E) (mkZ w K cla fa) (lvl prg n)) :
    MB (cxOf (L2.CX P w) P w K mg base ["self"] "Form.__init__" (defScope s38) f cdv A0 outer s H E) (mkZ w K cla fa) (lvl prg n) W (defBody s38) ir38 :=
  (mb_cons M (ms_setat M (me_int M) (me_var M 0))
  (mb_nil M))
theorem d39 {P : Program} {w : World} {mg : Str → Option Value} {base : Heap} {f : Addr} {cdv : Value} {A0 : Around} {outer : List PySem.Env} {s : Shared} {H : Hp} {E : XK} (M : Mx (cxOf (L2.CX P w) P w K mg base ["self", "value", "around", "left", "form"] "Form.is_good" (defScope s39) f cdv A0 outer s H E) (mkZ w K cla fa) (lvl prg n) (k + 2) W false) (A : XA (cxOf (L2.CX P w) P w K mg base ["self", "value", "around", "left", "form"] "Form.is_good" (defScope s39) f cdv A0 outer s H E) (mkZ w K cla fa) (lvl prg n)) :
    MB (cxOf (L2.CX P w) P w K mg base ["self", "value", "around", "left", "form"] "Form.is_good" (defScope s39) f cdv A0 outer s H E) (mkZ w K cla fa) (lvl prg n) W (defBody s39) ir39 :=
  (mb_cons M (ms_augat M (me_int M) (me_var M 0))
  (mb_cons M (ms_ife M (mt_w M (mw_or M (mt_cmp M (me_var M 3) (me_int M)) (mw_or1 M (mt_cmp M (me_att M (me_var M 0)) (me_con M 0))))) (mb_cons M (ms_ret M (me_bl M))
  (mb_nil M)) (mb_nil M))
  (mb_cons M (ms_set M 4 (me_call M (ma_cons M (me_var M 1) (ma_nil M))))
  (mb_cons M (ms_ife M (mt_cmp M (me_var M 4) (me_tup M (ma_cons M (me_str M) (ma_cons M (me_int M) (ma_nil M))))) (mb_cons M (ms_ret M (me_call M (ma_cons M (me_ix M (me_var M 1) (me_int M)) (ma_cons M (me_int M) (ma_cons M (me_bin M (me_var M 2) (me_int M)) (ma_nil M))))))
  (mb_nil M)) (mb_nil M))
  (mb_cons M (ms_ife M (mt_cmp M (me_var M 4) (me_tup M (ma_cons M (me_str M) (ma_cons M (me_int M) (ma_nil M))))) (mb_cons M (ms_ret M (me_call M (ma_cons M (me_ix M (me_var M 1) (me_int M)) (ma_nil M))))
  (mb_nil M)) (mb_nil M))
  (mb_cons M (ms_ife M (mt_cmp M (me_var M 4) (me_tup M (ma_cons M (me_str M) (ma_cons M (me_int M) (ma_nil M))))) (mb_cons M (ms_ret M (me_mth M (me_var M 0) (ma_cons M (me_ix M (me_var M 1) (me_int M)) (ma_cons M (me_bin M (me_var M 2) (me_int M)) (ma_cons M (me_bin M (me_var M 3) (me_int M)) (ma_nil M))))))
  (mb_nil M)) (mb_nil M))
  (mb_cons M (ms_ife M (mt_cmp M (me_var M 4) (me_tup M (ma_cons M (me_str M) (ma_cons M (me_int M) (ma_nil M))))) (mb_cons M (ms_ret M (me_bl M))
  (mb_nil M)) (mb_nil M))
  (mb_cons M (ms_ret M (me_and M (me_mth M (me_var M 0) (ma_cons M (me_ix M (me_var M 1) (me_int M)) (ma_cons M (me_var M 2) (ma_cons M (me_bin M (me_var M 3) (me_int M)) (ma_nil M))))) (me_one M (me_mth M (me_var M 0) (ma_cons M (me_ix M (me_var M 1) (me_int M)) (ma_cons M (me_var M 2) (ma_cons M (me_bin M (me_var M 3) (me_int M)) (ma_nil M))))))))
  (mb_nil M)))))))))
end
end K42
end Mini
end L2
namespace L2
namespace Mini
namespace K42
open PySem PySem.Spec PyProof.Rows
local macro_rules | `(tactic| walk_at "s") => `(tactic| first | with_reducible refine st_set ?_ | with_reducible refine st_ife ?_ | with_reducible refine st_ret ?_ | with_reducible refine st_ex ?_ | with_reducible refine st_unp ?_ | with_reducible refine st_unpl ?_ | with_reducible refine st_unpa ?_ | with_reducible refine st_aug ?_ | with_reducible refine st_for ?_ | with_reducible refine st_whl ?_ | with_reducible refine st_nil ?_ | with_reducible refine st_setix ?_ | with_reducible refine st_raise ?_ | with_reducible refine st_try ?_ | with_reducible refine st_setat ?_ | with_reducible refine st_augat ?_ | with_reducible refine st_pass ?_ | with_reducible refine st_brk ?_ | with_reducible refine st_cnt ?_)
local macro_rules | `(tactic| walk_at "e") => `(tactic| try simp only [fget, fput, eq_self, Nat.reduceEqDiff, and_true, Int.reduceBEq, wpC, goW, List.map_cons, List.map_nil, deq, deqs, List.any_cons, List.any_nil, slW, cut_1, Int.cast_ofNat_Int, Int.natCast_zero, Int.natCast_one, Int.reduceLE, Int.reduceLT, Int.reduceNeg, Int.reduceAdd, Int.reduceSub, decide_true, decide_false, inW_chr, List.contains_cons, List.contains_nil, Bool.or_true, Bool.true_or, Bool.or_false, Bool.false_or, gd, gds, List.all_cons, List.all_nil, Nat.reduceLT, List.zip_cons_cons, List.zip_nil_left, List.foldl_cons, List.foldl_nil, wpT, wpE, wpEs, wpO, wpI, env0, Env.get, List.map, List.length, List.replicate, List.getElem?_cons_zero, List.getElem?_cons_succ, List.nil_append, List.cons_append, List.append_nil, tru, isiW, cmpW, List.set, Nat.reduceSub, Nat.reduceAdd, Bool.not_true, Bool.not_false, Bool.false_eq_true, if_true, if_false, reduceIte, ixW, biW, bmTy, augW, tgW, newW, wpPs, dmerge, sqW_t, sqW_s, binW_ai, binW_si, binW_at, binW_as, binW_mi, binW_di, binW_mo, atI_0, atI_1, atI_2, ex_some, eqW_str, eqW_int, sz0, sz1, sz2, sz3, sz4, sz5, sz6, sz7, sz8, sz9, sz10, sz11, sz12, sz13, sz14, true_and, Bool.false_xor, Bool.true_xor, lb_cc, lb_nc, lb_cn, lb_nn, Nat.reduceBEq, Bool.and_true, Bool.true_and, Bool.false_and, Bool.and_false, beq_self_eq_true, binW_ms])
local macro_rules | `(tactic| walk_at "r") => `(tactic| ((try walk_at "s"); walk_at "e"; repeat (walk_at "s"; walk_at "e")))
local macro_rules | `(tactic| walk_at "w") => `(tactic| simp only [wpSs, wpS, wpT, wpE, wpEs, wpO, wpI, env0, Env.get, List.map, List.length, List.replicate, List.getElem?_cons_zero, List.getElem?_cons_succ, List.nil_append, List.cons_append, List.append_nil, tru, isiW, cmpW, List.set, Nat.reduceSub, Nat.reduceAdd, Bool.not_true, Bool.not_false, Bool.false_eq_true, if_true, if_false, reduceIte, ixW, biW, bmTy, sqW_t, sqW_s, binW_ai, binW_si, binW_at, binW_as, binW_mi, binW_di, binW_mo, atI_0, atI_1, atI_2, ex_some, eqW_str, eqW_int, sz0, sz1, sz2, sz3, sz4, sz5, sz6, sz7, sz11, true_and, Bool.false_xor, Bool.true_xor, lb_cc, lb_nc, lb_cn, lb_nn, Nat.reduceBEq, Bool.and_true, Bool.true_and, Bool.false_and, Bool.and_false, beq_self_eq_true])
local macro_rules | `(tactic| walk_at "q") => `(tactic| refine eqW_of rfl rfl (Nat.le_of_ble_eq_true rfl) ?_)
local macro_rules | `(tactic| walk_at "g") => `(tactic| (walk_at "r"; repeat (walk_at "q"; walk_at "r")))
abbrev tail_draw : Stms := (.cons (.ife (.cmp .gt (.bi .len (.cons (.var 2) .nil)) (.lit (.int 0))) (.cons (.set 3 (.ix (.var 2) (.lit (.int 0)))) (.cons (.setix (.var 2) (.lit (.int 0)) (.bin .fdiv (.var 3) (.var 1))) (.cons (.ret (.bin .mod (.bi .int (.cons (.var 3) .nil)) (.var 1))) .nil))) .nil)
      (.cons (.setix (.var 0) (.lit (.int 1)) (.bin .mod (.bi .int (.cons (.bin .add (.bin .mul (.ix (.var 0) (.lit (.int 1))) (.lit (.int 48271))) (.lit (.int 12345))) .nil)) (.lit (.int 2147483647)))) (.cons (.ret (.bin .mod (.bi .int (.cons (.bin .fdiv (.ix (.var 0) (.lit (.int 1))) (.lit (.int 64))) .nil)) (.var 1))) .nil)))
theorem tail_draw_ok {t c : Addr} {m n : Nat} {S : Sto} {K : En} {X : EX} (h0 : 0 < m) (hm : m < 1000000) (ne : c ≠ t) {s : Int} (hs : S t = some (.lst [.ref c, .int s])) {l : List Int} (hl : S c = some (.lst (l.map D.int)))
    (q : ∀ (i : Int) S', Tp t c S' → Sd t c S S' → K.rt (.int (i.fmod (m : Int))) S') : wpSs (lvl prg n) tail_draw K X [some (.ref t), some (.int m), some (.ref c), none] S := by
  have hm0 : (m : Int) ≠ 0 := by omega
  cases l with
  | nil =>
    walk_at "s"; walk_at "e"
    simp only [hl]
    walk_at "e"
    walk_at "s"
    walk_at "s"; walk_at "e"
    simp only [hs]
    walk_at "e"
    refine ⟨.inr (by unfold smallI; omega), by omega, ?_⟩
    unfold setixW
    simp only [hs]
    refine ⟨1, rfl, ?_⟩
    walk_at "s"; walk_at "e"
    simp only [Sto.upd_same, List.set]
    walk_at "e"
    refine ⟨by omega, by decide, hm0, q _ _ ⟨ne, ⟨_, Sto.upd_same⟩, [], by rw [Sto.upd_ne ne]; exact hl⟩ fun a d h1 h2 h => by rw [Sto.upd_ne h1]; exact h⟩
  | cons a l =>
    have h1 : decide ((0 : Int) < (((a :: l).map D.int).length : Int)) = true := decide_eq_true (by simp only [List.length_map, List.length_cons]; omega)
    walk_at "s"; walk_at "e"
    simp only [hl, h1]
    walk_at "e"
    walk_at "s"; walk_at "e"
    simp only [hl]
    walk_at "e"
    walk_at "s"; walk_at "e"
    refine ⟨hm0, by omega, ?_⟩
    unfold setixW
    simp only [hl]
    refine ⟨0, ixN_0 (by simp), ?_⟩
    walk_at "s"; walk_at "e"
    refine ⟨hm0, q a _ ⟨ne, ⟨s, by rw [Sto.upd_ne (fun e => ne e.symm)]; exact hs⟩, (a.fdiv (m : Int)) :: l, by rw [Sto.upd_same]; rfl⟩ fun b d h1 h2 h => by rw [Sto.upd_ne h2]; exact h⟩
theorem w_draw {t c : Addr} {m : Nat} {n : Nat} {S : Sto} {Q : QD} {E : QX} (h : Tp t c S) (h0 : 0 < m) (hm : m < 1000000) (q : ∀ (r : Nat) S', r < m → Tp t c S' → Sd t c S S' → Q (.int r) S') : (lvl prg (n + 1)).fn 21 [.ref t, .int m] S Q E := by
  obtain ⟨ne, ⟨s, hs⟩, l, hl⟩ := h
  have fin : ∀ (i : Int) S', Tp t c S' → Sd t c S S' → Q (.int (i.fmod (m : Int))) S' := fun i S' h x => by
    obtain ⟨h1, h2⟩ := fmod_lt (i := i) (m := (m : Int)) (by omega)
    have e : i.fmod (m : Int) = (((i.fmod (m : Int)).toNat : Nat) : Int) := by omega
    rw [e]
    exact q _ S' (by omega) h x
  refine ⟨rfl, ?_⟩
  unfold ir21
  walk_at "s"; walk_at "e"
  simp only [hs]
  walk_at "e"
  walk_at "s"
  refine ⟨fun k σ S' => σ = [some (.ref t), some (.int m), some (.ref c), none] ∧ S' t = some (.lst [.ref c, .int s]) ∧ Sd t c S S' ∧ ∃ l : List Int, S' c = some (.lst (l.map D.int)) ∧ k = l.length, ⟨l.length, rfl, hs, Sd.refl _ _ _, l, hl, rfl⟩, ?_⟩
  rintro k σ S1 ⟨rfl, hs1, x1, l1, hl1, rfl⟩
  have tl : wpSs (lvl prg n) tail_draw { nx := fun _ S' => Q D.non S', rt := Q } (fun x _ S' => E x S') [some (.ref t), some (.int m), some (.ref c), none] S1 := tail_draw_ok h0 hm ne hs1 hl1 fun i S' h x => fin i S' h (x1.trans x)
  walk_at "e"
  simp only [hl1]
  cases l1 with
  | nil =>
    walk_at "e"
    exact tl
  | cons a l1 =>
    have h1 : decide ((0 : Int) < (((a :: l1).map D.int).length : Int)) = true := decide_eq_true (by simp only [List.length_map, List.length_cons]; omega)
    simp only [h1]
    walk_at "e"
    cases ha : (a == 0) with
    | false =>
      walk_at "e"
      exact tl
    | true =>
      walk_at "e"
      walk_at "s"; walk_at "e"
      refine ⟨⟨_, hl1⟩, ?_⟩
      unfold bmW
      simp only [hl1]
      refine ⟨⟨by omega, by omega⟩, 0, .int a, ixN_0 (by simp), rfl, ?_⟩
      walk_at "s"
      refine ⟨l1.length, by simp, rfl, by rw [Sto.upd_ne (fun e => ne e.symm)]; exact hs1, fun b d q1 q2 q3 => by rw [Sto.upd_ne q2]; exact x1 b d q1 q2 q3, l1, by rw [Sto.upd_same]; rfl, rfl⟩
theorem w_pick {t c a : Addr} {row : List D} {n : Nat} {S : Sto} {Q : QD} {E : QX} (h : Tp t c S) (ha : S a = some (.lst row)) (nt : a ≠ t) (nc : a ≠ c) (h0 : 0 < row.length) (hm : row.length < 1000000) (q : ∀ (d : D) S', d ∈ row → Tp t c S' → Sd t c S S' → Q d S') : (lvl prg (n + 2)).fn 22 [.ref t, .ref a] S Q E := by
  refine ⟨rfl, ?_⟩
  unfold ir22
  walk_at "s"; walk_at "e"
  simp only [ha]
  refine w_draw h h0 hm fun r S1 hr h1 x1 => ?_
  have ha1 := x1 _ _ nt nc ha
  simp only [ha1]
  rw [atI_nat, List.getElem?_eq_getElem hr]
  exact ⟨_, rfl, q _ S1 (List.getElem_mem hr) h1 x1⟩
theorem for_tape {n : Nat} {a : Addr} {S : Sto} {K : En} {X : EX} (q : ∀ (s : Int) o, K.nx [some (.ref a), some (.int s), o] S) : ∀ (l l0 : List Int) (s : Int) (o : Option D), rd S a = some (l0.map D.int) →
    forW (liveL a (l0.map D.int)) (.nm 2) (fun K σ S => wpSs (lvl prg n) (forBody ir20) K X σ S) K (l.map D.int) [some (.ref a), some (.int s), o] S
  | [], l0, s, o, h => ⟨h, q s o⟩
  | i :: l, l0, s, o, h => by
    refine forW_step h rfl fun K' knx _ krt _ => ?_
    dsimp only [forBody, ir20]
    walk_at "s"; walk_at "e"
    refine ⟨.inr (by unfold smallI; omega), by decide, ?_⟩
    walk_at "s"
    exact knx _ _ (for_tape q l l0 _ _ h)
theorem w_tape {a : Addr} {l : List Int} {n : Nat} {S : Sto} {Q : QD} {E : QX} (h : rd S a = some (l.map D.int)) (hl : l.length ≤ 63) (q : ∀ t c S', Tp t c S' → Sx S S' → Q (.ref t) S') : (lvl prg (n + 1)).fn 20 [.ref a] S Q E := by
  refine ⟨rfl, ?_⟩
  unfold ir20
  walk_at "s"; walk_at "e"
  walk_at "s"; walk_at "e"
  refine sqW_r h ?_
  refine for_tape (fun s o => ?_) l l _ none h
  dsimp only
  walk_at "s"; walk_at "e"
  refine sqW_r h ?_
  intro p hp
  refine goW_map (p := p) (N := 63) (fun d => match d with | .int i => some (.int (if i < 0 then -i else i)) | _ => none) (fun S S' x lv => ?_) _ [] _ (by simpa using hl) (fun d hd S1 acc K x1 h1 hn k => ?_) Sto.upd_same ?_ fun S2 x2 h2 _ => ?_
  · exact rd_sxb x (fun e => by rw [e] at h; unfold rd at h; rw [hp] at h; cases h) lv
  · obtain ⟨i, _, rfl⟩ := List.mem_map.mp hd
    walk_at "e"
    refine ⟨acc, h1, ?_, k _ Sxb.put (by rw [Sto.upd_same]; rfl)⟩
    exact of_eq_true (sz_lt (by omega))
  · exact rd_sx (Sx.new hp) h
  · walk_at "e"
    intro t ht
    have nt : p ≠ t := new_ne h2 ht
    have e : ∀ l : List Int, (l.map D.int).filterMap (fun d => match d with | .int i => some (D.int (if i < 0 then -i else i)) | _ => none) = (l.map fun i => if i < 0 then -i else i).map D.int := fun l => by
      induction l with
      | nil => rfl
      | cons i l ih => simp [ih]
    refine q t p _ ⟨nt, ⟨_, Sto.upd_same⟩, _, by rw [Sto.upd_ne nt, h2, e]; rfl⟩ (((Sx.new hp).b.trans x2).of_new hp |>.trans (Sx.new ht))
theorem w_same : ∀ {n : Nat} {d : D} {S : Sto} {Q : QD} {E : QX}, dd d + 1 ≤ n → pl d = true → (∀ S', Sx S S' → Q (.bl true) S') → (lvl prg n).fn 23 [d, d] S Q E := by
  intro n
  induction n with
  | zero => intro d S Q E hn; omega
  | succ n ih =>
  intro d S Q E hn h q
  refine ⟨rfl, ?_⟩
  unfold ir23
  cases d with
  | non => cases h
  | bl b => cases h
  | ref a => cases h
  | fn f => cases h
  | int i =>
    walk_at "s"; walk_at "e"
    walk_at "s"; walk_at "s"; walk_at "e"
    walk_at "s"; walk_at "s"; walk_at "e"
    walk_at "s"; walk_at "e"
    exact q S (Sx.refl S)
  | str l =>
    walk_at "s"; walk_at "e"
    walk_at "s"; walk_at "s"; walk_at "e"
    walk_at "s"; walk_at "s"; walk_at "e"
    walk_at "s"; walk_at "s"; walk_at "e"
    walk_at "s"; walk_at "e"
    exact q S (Sx.refl S)
  | tup ds =>
    simp only [pl, Bool.and_eq_true, decide_eq_true_eq] at h
    simp only [dd] at hn
    walk_at "s"; walk_at "e"
    walk_at "s"; walk_at "s"; walk_at "e"
    walk_at "s"; walk_at "s"; walk_at "e"
    walk_at "s"; walk_at "s"; walk_at "e"
    walk_at "s"; walk_at "s"; walk_at "e"
    refine eqW_of rfl rfl (by decide) ?_
    walk_at "e"
    refine eqW_of rfl rfl (by decide) ?_
    walk_at "e"
    walk_at "s"; walk_at "s"; walk_at "e"
    walk_at "s"; walk_at "s"; walk_at "e"
    refine ⟨by omega, by omega, fun p hp => ?_⟩
    have hlen : ((ds.length : Int)).toNat = ds.length := by omega
    refine goW_map (p := p) (N := 1000) (fun _ => some (.bl true)) (fun _ _ _ _ => True.intro) _ [] _ (by simp [rngD]; omega) (fun d hd S1 acc K x1 h1 hk k => ?_) Sto.upd_same True.intro fun S2 x2 h2 _ => ?_
    · unfold rngD at hd
      obtain ⟨j, hj, rfl⟩ := List.mem_map.mp hd
      have hj := List.mem_range.mp hj
      rw [hlen] at hj
      have e0 : (0 + (j : Int)) = (j : Int) := by omega
      rw [e0]
      have hg := List.getElem?_eq_getElem hj
      obtain ⟨hp1, hd1⟩ := pls_get h.2 hg
      walk_at "e"
      rw [atI_nat, hg]
      refine ⟨_, rfl, _, rfl, ?_⟩
      refine ih (by omega) hp1 fun S3 x3 => ?_
      exact ⟨acc, x3 _ _ h1, of_eq_true (sz_lt (by omega)), k _ (x3.b.trans Sxb.put) (by rw [Sto.upd_same]; rfl)⟩
    · have er := fm_true (rngD 0 ((ds.length : Int)).toNat)
      rw [List.nil_append, er] at h2
      refine inW_lst (rd_lst h2) rfl (trues_gd _) (by decide) ?_
      rw [trues_any]
      exact q S2 ((Sxb.put.trans x2).of_new hp)
theorem lvl_xfl (n : Nat) : (lvl prg n).xfl = xfl := by cases n <;> rfl
theorem lvl_xsub (n : Nat) : (lvl prg n).xsub = xsub := by cases n <;> rfl
theorem lvl_nfn (n : Nat) : (lvl prg n).nfn = 38 := by cases n <;> rfl
theorem w_same_non {n : Nat} {S : Sto} {Q : QD} {E : QX} (q : Q (.bl true) S) : (lvl prg (n + 1)).fn 23 [.non, .non] S Q E := by
  refine ⟨rfl, ?_⟩
  unfold ir23
  walk_at "r"
  exact q
end K42
end Mini
end L2
namespace L2
namespace Mini
namespace K42
open PySem PySem.Spec PyProof.Rows
local macro_rules | `(tactic| walk_at "s") => `(tactic| first | with_reducible refine st_set ?_ | with_reducible refine st_ife ?_ | with_reducible refine st_ret ?_ | with_reducible refine st_ex ?_ | with_reducible refine st_unp ?_ | with_reducible refine st_unpl ?_ | with_reducible refine st_unpa ?_ | with_reducible refine st_aug ?_ | with_reducible refine st_for ?_ | with_reducible refine st_whl ?_ | with_reducible refine st_nil ?_ | with_reducible refine st_setix ?_ | with_reducible refine st_raise ?_ | with_reducible refine st_try ?_ | with_reducible refine st_setat ?_ | with_reducible refine st_augat ?_ | with_reducible refine st_pass ?_ | with_reducible refine st_brk ?_ | with_reducible refine st_cnt ?_)
local macro_rules | `(tactic| walk_at "e") => `(tactic| try simp only [fget, fput, eq_self, Nat.reduceEqDiff, and_true, Int.reduceBEq, wpC, goW, List.map_cons, List.map_nil, deq, deqs, List.any_cons, List.any_nil, slW, cut_1, Int.cast_ofNat_Int, Int.natCast_zero, Int.natCast_one, Int.reduceLE, Int.reduceLT, Int.reduceNeg, Int.reduceAdd, Int.reduceSub, decide_true, decide_false, inW_chr, List.contains_cons, List.contains_nil, Bool.or_true, Bool.true_or, Bool.or_false, Bool.false_or, gd, gds, List.all_cons, List.all_nil, Nat.reduceLT, List.zip_cons_cons, List.zip_nil_left, List.foldl_cons, List.foldl_nil, wpT, wpE, wpEs, wpO, wpI, env0, Env.get, List.map, List.length, List.replicate, List.getElem?_cons_zero, List.getElem?_cons_succ, List.nil_append, List.cons_append, List.append_nil, tru, isiW, cmpW, List.set, Nat.reduceSub, Nat.reduceAdd, Bool.not_true, Bool.not_false, Bool.false_eq_true, if_true, if_false, reduceIte, ixW, biW, bmTy, augW, tgW, newW, wpPs, dmerge, sqW_t, sqW_s, binW_ai, binW_si, binW_at, binW_as, binW_mi, binW_di, binW_mo, atI_0, atI_1, atI_2, ex_some, eqW_str, eqW_int, sz0, sz1, sz2, sz3, sz4, sz5, sz6, sz7, sz8, sz9, sz10, sz11, sz12, sz13, sz14, true_and, Bool.false_xor, Bool.true_xor, lb_cc, lb_nc, lb_cn, lb_nn, Nat.reduceBEq, Bool.and_true, Bool.true_and, Bool.false_and, Bool.and_false, beq_self_eq_true, binW_ms])
local macro_rules | `(tactic| walk_at "r") => `(tactic| ((try walk_at "s"); walk_at "e"; repeat (walk_at "s"; walk_at "e")))
local macro_rules | `(tactic| walk_at "w") => `(tactic| simp only [wpSs, wpS, wpT, wpE, wpEs, wpO, wpI, env0, Env.get, List.map, List.length, List.replicate, List.getElem?_cons_zero, List.getElem?_cons_succ, List.nil_append, List.cons_append, List.append_nil, tru, isiW, cmpW, List.set, Nat.reduceSub, Nat.reduceAdd, Bool.not_true, Bool.not_false, Bool.false_eq_true, if_true, if_false, reduceIte, ixW, biW, bmTy, sqW_t, sqW_s, binW_ai, binW_si, binW_at, binW_as, binW_mi, binW_di, binW_mo, atI_0, atI_1, atI_2, ex_some, eqW_str, eqW_int, sz0, sz1, sz2, sz3, sz4, sz5, sz6, sz7, sz11, true_and, Bool.false_xor, Bool.true_xor, lb_cc, lb_nc, lb_cn, lb_nn, Nat.reduceBEq, Bool.and_true, Bool.true_and, Bool.false_and, Bool.and_false, beq_self_eq_true])
local macro_rules | `(tactic| walk_at "q") => `(tactic| refine eqW_of rfl rfl (Nat.le_of_ble_eq_true rfl) ?_)
local macro_rules | `(tactic| walk_at "g") => `(tactic| (walk_at "r"; repeat (walk_at "q"; walk_at "r")))
theorem w_part : ∀ (size : Nat) {around n : Nat} {t c : Addr} {S : Sto} {Q : QD} {E : QX}, 1 ≤ size → around + size ≤ 400 → size + 2 ≤ n → Tp t c S → (∀ u S', good u = true → clo around u = true → fi u + 1 ≤ size → Tp t c S' → Sd t c S S' → Q (enc u) S') → (lvl prg n).fn 24 [.ref t, .int around, .int size] S Q E := by
  intro size
  induction size using Nat.strongRecOn with
  | ind size ih =>
  intro around n t c S Q E h1 ha hn h q
  obtain ⟨n, rfl⟩ : ∃ j, n = j + 3 := ⟨n - 3, by omega⟩
  refine ⟨rfl, ?_⟩
  unfold ir24
  walk_at "s"; walk_at "e"
  refine w_draw (m := 8) h (by omega) (by omega) fun pick S1 hp h1' x1 => ?_
  -- a leaf
  have leaf : ∀ S1, Tp t c S1 → Sd t c S S1 → wpSs (lvl prg (n + 2)) (.cons (.ife (.and (.cmp .gt (.var 1) (.lit (.int 0))) (.cmp .gt (.call 21 (.cons (.var 0) (.cons (.lit (.int 7)) .nil))) (.lit (.int 0)))) (.cons (.ret (.tup (.cons (.lit (.str [97, 116])) (.cons (.call 21 (.cons (.var 0) (.cons (.var 1) .nil))) .nil)))) .nil) .nil)
      (.cons (.ret (.tup (.cons (.lit (.str [110, 97, 109, 101])) (.cons (.call 22 (.cons (.var 0) (.cons (.lst (.cons (.lit (.str [97])) (.cons (.lit (.str [98])) (.cons (.lit (.str [122, 49])) .nil)))) .nil))) .nil)))) .nil))
      { nx := fun _ _ => False, rt := Q } (fun x _ S' => E x S') [some (.ref t), some (.int around), some (.int size), some (.int pick), none] S1 := by
    intro S1 h1 x1
    have name : ∀ S2, Tp t c S2 → Sd t c S S2 → wpSs (lvl prg (n + 2)) (.cons (.ret (.tup (.cons (.lit (.str [110, 97, 109, 101])) (.cons (.call 22 (.cons (.var 0) (.cons (.lst (.cons (.lit (.str [97])) (.cons (.lit (.str [98])) (.cons (.lit (.str [122, 49])) .nil)))) .nil))) .nil)))) .nil)
        { nx := fun _ _ => False, rt := Q } (fun x _ S' => E x S') [some (.ref t), some (.int around), some (.int size), some (.int pick), none] S2 := by
      intro S2 h2 x2
      walk_at "s"; walk_at "e"
      intro p hp
      have h3 := h2.sx (Sx.new (c := Cell.lst [D.str [97], D.str [98], D.str [122, 49]]) hp)
      obtain ⟨s, es⟩ := h2.at_
      obtain ⟨l, el⟩ := h2.cs
      refine w_pick h3 Sto.upd_same (fun e => by rw [← e, hp] at es; cases es) (fun e => by rw [← e, hp] at el; cases el) (by decide) (by decide) fun d S4 hd h4 x4 => ?_
      walk_at "e"
      have x := (x2.trans (Sx.d (Sx.new (c := Cell.lst [D.str [97], D.str [98], D.str [122, 49]]) hp) t c)).trans x4
      simp only [List.mem_cons, List.not_mem_nil, or_false] at hd
      rcases hd with rfl | rfl | rfl
      · exact q (.nm [97]) S4 rfl rfl (by simp only [fi]; omega) h4 x
      · exact q (.nm [98]) S4 rfl rfl (by simp only [fi]; omega) h4 x
      · exact q (.nm [122, 49]) S4 rfl rfl (by simp only [fi]; omega) h4 x
    walk_at "s"; walk_at "e"
    cases ea : decide ((0 : Int) < (around : Int)) with
    | false =>
      walk_at "e"
      walk_at "s"
      exact name S1 h1 x1
    | true =>
      have ea' := of_decide_eq_true ea
      walk_at "e"
      refine w_draw (m := 7) h1 (by omega) (by omega) fun r S2 hr h2 x2 => ?_
      walk_at "e"
      cases eb : decide ((0 : Int) < (r : Int)) with
      | false =>
        walk_at "e"
        walk_at "s"
        exact name S2 h2 (x1.trans x2)
      | true =>
        walk_at "e"
        walk_at "s"; walk_at "e"
        refine w_draw h2 (by omega) (by omega) fun k S3 hk h3 x3 => ?_
        walk_at "e"
        exact q (.av k) S3 rfl (by simp only [clo, decide_eq_true_eq]; omega) (by simp only [fi]; omega) h3 ((x1.trans x2).trans x3)
  have e1 : ((around : Int) + 1) = ((around + 1 : Nat) : Int) := by omega
  have e2 : ((size : Int) - 1) = ((size - 1 : Nat) : Int) := by omega
  walk_at "s"; walk_at "e"
  cases es : decide ((size : Int) < 2) with
  | true =>
    walk_at "e"
    exact leaf S1 h1' x1
  | false =>
    have es' := of_decide_eq_false es
    walk_at "e"
    cases ep : ((pick : Int) == 0) with
    | true =>
      walk_at "e"
      exact leaf S1 h1' x1
    | false =>
      walk_at "e"
      walk_at "s"
      walk_at "s"; walk_at "e"
      cases e4 : decide ((pick : Int) < 4) with
      | true =>
        walk_at "e"
        walk_at "s"; walk_at "e"
        rw [e1, e2]
        refine ih (size - 1) (by omega) (by omega) (by omega) (by omega) h1' fun u S2 gu cu fu h2 x2 => ?_
        exact q (.fn u) S2 gu (by simpa [clo] using cu) (by simp only [fi]; omega) h2 (x1.trans x2)
      | false =>
        walk_at "e"
        walk_at "s"
        walk_at "s"; walk_at "e"
        rw [e2]
        refine w_draw h1' (by omega) (by omega) fun r S2 hr h2 x2 => ?_
        have e3 : (1 + (r : Int)) = ((1 + r : Nat) : Int) := by omega
        have e5 : ((size : Int) - ((1 + r : Nat) : Int)) = ((size - (1 + r) : Nat) : Int) := by omega
        walk_at "e"
        rw [e3]
        walk_at "s"; walk_at "e"
        refine ih (1 + r) (by omega) (by omega) (by omega) (by omega) h2 fun u S3 gu cu fu h3 x3 => ?_
        rw [e5]
        refine ih (size - (1 + r)) (by omega) (by omega) (by omega) (by omega) h3 fun v S4 gv cv fv h4 x4 => ?_
        walk_at "e"
        exact q (.cl u v) S4 (by simp [good, gu, gv]) (by simp [clo, cu, cv]) (by simp only [fi]; omega) h4 (((x1.trans x2).trans x3).trans x4)
end K42
end Mini
end L2
namespace L2
namespace Mini
namespace K42
open PySem PySem.Spec PyProof.Rows
local macro_rules | `(tactic| walk_at "s") => `(tactic| first | with_reducible refine st_set ?_ | with_reducible refine st_ife ?_ | with_reducible refine st_ret ?_ | with_reducible refine st_ex ?_ | with_reducible refine st_unp ?_ | with_reducible refine st_unpl ?_ | with_reducible refine st_unpa ?_ | with_reducible refine st_aug ?_ | with_reducible refine st_for ?_ | with_reducible refine st_whl ?_ | with_reducible refine st_nil ?_ | with_reducible refine st_setix ?_ | with_reducible refine st_raise ?_ | with_reducible refine st_try ?_ | with_reducible refine st_setat ?_ | with_reducible refine st_augat ?_ | with_reducible refine st_pass ?_ | with_reducible refine st_brk ?_ | with_reducible refine st_cnt ?_)
local macro_rules | `(tactic| walk_at "e") => `(tactic| try simp only [fget, fput, eq_self, Nat.reduceEqDiff, and_true, Int.reduceBEq, wpC, goW, List.map_cons, List.map_nil, deq, deqs, List.any_cons, List.any_nil, slW, cut_1, Int.cast_ofNat_Int, Int.natCast_zero, Int.natCast_one, Int.reduceLE, Int.reduceLT, Int.reduceNeg, Int.reduceAdd, Int.reduceSub, decide_true, decide_false, inW_chr, List.contains_cons, List.contains_nil, Bool.or_true, Bool.true_or, Bool.or_false, Bool.false_or, gd, gds, List.all_cons, List.all_nil, Nat.reduceLT, List.zip_cons_cons, List.zip_nil_left, List.foldl_cons, List.foldl_nil, wpT, wpE, wpEs, wpO, wpI, env0, Env.get, List.map, List.length, List.replicate, List.getElem?_cons_zero, List.getElem?_cons_succ, List.nil_append, List.cons_append, List.append_nil, tru, isiW, cmpW, List.set, Nat.reduceSub, Nat.reduceAdd, Bool.not_true, Bool.not_false, Bool.false_eq_true, if_true, if_false, reduceIte, ixW, biW, bmTy, augW, tgW, newW, wpPs, dmerge, sqW_t, sqW_s, binW_ai, binW_si, binW_at, binW_as, binW_mi, binW_di, binW_mo, atI_0, atI_1, atI_2, ex_some, eqW_str, eqW_int, sz0, sz1, sz2, sz3, sz4, sz5, sz6, sz7, sz8, sz9, sz10, sz11, sz12, sz13, sz14, true_and, Bool.false_xor, Bool.true_xor, lb_cc, lb_nc, lb_cn, lb_nn, Nat.reduceBEq, Bool.and_true, Bool.true_and, Bool.false_and, Bool.and_false, beq_self_eq_true, binW_ms])
local macro_rules | `(tactic| walk_at "r") => `(tactic| ((try walk_at "s"); walk_at "e"; repeat (walk_at "s"; walk_at "e")))
local macro_rules | `(tactic| walk_at "w") => `(tactic| simp only [wpSs, wpS, wpT, wpE, wpEs, wpO, wpI, env0, Env.get, List.map, List.length, List.replicate, List.getElem?_cons_zero, List.getElem?_cons_succ, List.nil_append, List.cons_append, List.append_nil, tru, isiW, cmpW, List.set, Nat.reduceSub, Nat.reduceAdd, Bool.not_true, Bool.not_false, Bool.false_eq_true, if_true, if_false, reduceIte, ixW, biW, bmTy, sqW_t, sqW_s, binW_ai, binW_si, binW_at, binW_as, binW_mi, binW_di, binW_mo, atI_0, atI_1, atI_2, ex_some, eqW_str, eqW_int, sz0, sz1, sz2, sz3, sz4, sz5, sz6, sz7, sz11, true_and, Bool.false_xor, Bool.true_xor, lb_cc, lb_nc, lb_cn, lb_nn, Nat.reduceBEq, Bool.and_true, Bool.true_and, Bool.false_and, Bool.and_false, beq_self_eq_true])
local macro_rules | `(tactic| walk_at "q") => `(tactic| refine eqW_of rfl rfl (Nat.le_of_ble_eq_true rfl) ?_)
local macro_rules | `(tactic| walk_at "g") => `(tactic| (walk_at "r"; repeat (walk_at "q"; walk_at "r")))
theorem w_int {n : Nat} {S : Sto} {Q : QD} {E : QX} {i lo hi : Int} (q : Q (.bl (decide (lo ≤ i) && decide (i ≤ hi))) S) : (lvl prg (n + 1)).fn 0 [.int i, .int lo, .int hi] S Q E := by
  refine ⟨rfl, ?_⟩
  unfold ir0
  walk_at "w"
  by_cases h : lo ≤ i
  · simp only [h, decide_true, Bool.true_and] at q ⊢
    exact q
  · simp only [h, decide_false, Bool.false_and] at q ⊢
    exact q
theorem w_int_bl {n : Nat} {S : Sto} {Q : QD} {E : QX} {b : Bool} {lo hi : Int} (q : Q (.bl false) S) : (lvl prg (n + 1)).fn 0 [.bl b, .int lo, .int hi] S Q E := by
  refine ⟨rfl, ?_⟩
  unfold ir0
  walk_at "w"
  exact q
theorem low_or (a : Nat) : (a == 97 || (a == 98 || (a == 99 || (a == 100 || (a == 101 || (a == 102 || (a == 103 || (a == 104 || (a == 105 || (a == 106 || (a == 107 || (a == 108 || (a == 109 || (a == 110 || (a == 111 || (a == 112 || (a == 113 || (a == 114 || (a == 115 || (a == 116 || (a == 117 || (a == 118 || (a == 119 || (a == 120 || (a == 121 || a == 122))))))))))))))))))))))))) = low a := by
  rw [Bool.eq_iff_iff]
  simp only [low, Bool.or_eq_true, beq_iff_eq, Bool.and_eq_true, decide_eq_true_eq]
  omega
theorem dig_or (a : Nat) : (a == 48 || (a == 49 || (a == 50 || (a == 51 || (a == 52 || (a == 53 || (a == 54 || (a == 55 || (a == 56 || a == 57))))))))) = dig a := by
  rw [Bool.eq_iff_iff]
  simp only [dig, Bool.or_eq_true, beq_iff_eq, Bool.and_eq_true, decide_eq_true_eq]
  omega
theorem w_name {l : List Nat} {n : Nat} {S : Sto} {Q : QD} {E : QX} (hg : l.all (fun c => decide (c < 0x110000)) = true) (hz : l.length ≤ 1000000) (q : ∀ S', Sx S S' → Q (.bl (nameB l)) S') : (lvl prg (n + 1)).fn 1 [.str l] S Q E := by
  have qf : nameB l = false → Q (.bl false) S := fun h => by rw [← h]; exact q S (Sx.refl S)
  refine ⟨rfl, ?_⟩
  unfold ir1
  walk_at "s"; walk_at "e"
  refine ⟨of_eq_true (sz_le hz), ?_⟩
  cases h1 : decide ((1 : Int) ≤ (l.length : Int)) with
  | false =>
    walk_at "r"
    have h1 := of_decide_eq_false h1
    refine qf ?_
    unfold nameB
    rw [decide_eq_false (show ¬ (1 ≤ l.length) by omega)]
    rfl
  | true =>
    have h1 := of_decide_eq_true h1
    walk_at "e"
    cases h2 : decide ((l.length : Int) ≤ 12) with
    | false =>
      walk_at "r"
      have h2 := of_decide_eq_false h2
      refine qf ?_
      have e2 : decide (l.length ≤ 12) = false := decide_eq_false (by omega)
      unfold nameB
      rw [e2, Bool.and_false]
      rfl
    | true =>
      have h2 := of_decide_eq_true h2
      walk_at "e"
      refine inW_tup (by simpa [gd] using hg) rfl (by simp [dd]) ?_
      walk_at "e"
      have ea : decide (1 ≤ l.length) = true := decide_eq_true (by omega)
      have eb : decide (l.length ≤ 12) = true := decide_eq_true (by omega)
      cases h3 : ([108, 101, 116] == l || [105, 110] == l) with
      | true =>
        walk_at "r"
        refine qf ?_
        rw [Bool.or_eq_true, beq_iff_eq, beq_iff_eq] at h3
        rcases h3 with rfl | rfl <;> rfl
      | false =>
        rw [Bool.or_eq_false_iff] at h3
        have e3 : (l == [108, 101, 116]) = false := by rw [← h3.1]; exact BEq.comm
        have e4 : (l == [105, 110]) = false := by rw [← h3.2]; exact BEq.comm
        walk_at "e"
        walk_at "s"
        walk_at "s"; walk_at "e"
        cases l with
        | nil => exact absurd h1 (by simp)
        | cons a r =>
          have en : nameB (a :: r) = (low a && r.all (fun c => low c || dig c)) := by
            rw [nameB, ea, eb, e3, e4]; rfl
          have e9 : (a :: r).length = r.length + 1 := rfl
          walk_at "e"
          refine ⟨of_eq_true (sz_le (by omega)), ?_⟩
          rw [low_or a]
          cases ela : low a with
          | false =>
            walk_at "e"
            refine qf ?_
            rw [en, ela]
            rfl
          | true =>
            walk_at "e"
            refine ⟨of_eq_true (sz_le (by omega)), of_eq_true (sz_le (by omega)), fun p hp => ?_⟩
            refine goW_map (p := p) (N := 1000) (fun d => match d with | .str [c] => some (.bl (low c || dig c)) | _ => none) (fun _ _ _ _ => True.intro) _ [] _ (by rw [List.length_map]; simp only [List.length_nil]; omega) (fun d hd S1 acc K x1 h1 hn k => ?_) Sto.upd_same True.intro fun S2 x2 h2 _ => ?_
            · obtain ⟨c, _, rfl⟩ := List.mem_map.mp hd
              walk_at "e"
              rw [low_or c, dig_or c]
              have hs : acc.length < sizeLine := of_eq_true (sz_lt (by omega))
              have kk := k (S1.upd p (.lst (acc ++ [.bl (low c || dig c)]))) Sxb.put (by rw [Sto.upd_same]; rfl)
              cases e5 : low c with
              | true =>
                rw [e5, Bool.true_or] at kk
                walk_at "e"
                exact ⟨acc, h1, hs, kk⟩
              | false =>
                rw [e5, Bool.false_or] at kk
                walk_at "e"
                exact ⟨acc, h1, hs, kk⟩
            · have e6 : ∀ r : List Nat, (r.map fun c => D.str [c]).filterMap (fun d => match d with | .str [c] => some (D.bl (low c || dig c)) | _ => none) = (r.map fun c => low c || dig c).map D.bl := fun r => by
                induction r with
                | nil => rfl
                | cons c r ih => simp [ih]
              rw [List.nil_append, e6] at h2
              refine bi_all (rd_lst h2) ?_
              have := q S2 (((Sx.new hp).b.trans x2).of_new hp)
              rw [en, ela] at this
              rw [List.all_map]
              exact this
/-- form_of -/
theorem w_form {s : List Nat} {r : List D} {n : Nat} {S : Sto} {Q : QD} {E : QX} (hg : gd (.tup (.str s :: r)) = true) (q : Q (.tup [.str s, .int ((r.length + 1 : Nat) : Int)]) S) : (lvl prg (n + 1)).fn 2 [.tup (.str s :: r)] S Q E := by
  refine ⟨rfl, ?_⟩
  unfold ir2
  walk_at "s"; walk_at "e"
  refine eqW_t0 hg ?_
  walk_at "e"
  walk_at "s"
  walk_at "s"; walk_at "e"
  exact q
theorem w_good {p : Addr} : ∀ {t : Tm} {a k m n : Nat} {S : Sto} {Q : QD} {E : QX}, dp t + 1 ≤ n → dp t ≤ k → m + sz t ≤ 400 → good t = true → clo a t = true → S p = some (.ins 0 [(2, .int m)]) →
    (∀ S', Sxb p S S' → S' p = some (.ins 0 [(2, .int ((m + sz t : Nat) : Int))]) → Q (.bl true) S') → (lvl prg (n + 1)).fn 39 [.ref p, enc t, .int a, .int k] S Q E := by
  intro t
  induction t with
  | av j =>
    intro a k m n S Q E hn hk hm hg hc hp q
    simp only [dp, sz] at hn hk hm q
    obtain ⟨n, rfl⟩ : ∃ j, n = j + 1 := ⟨n - 1, by omega⟩
    have hk0 : ((k : Int) == 0) = false := beq_false_of_ne (by omega)
    obtain ⟨S1, hS1⟩ : ∃ S1, S1 = S.upd p (.ins 0 [(2, .int ((m : Int) + 1))]) := ⟨_, rfl⟩
    have hp1 : S1 p = some (.ins 0 [(2, .int ((m : Int) + 1))]) := by rw [hS1, Sto.upd_same]
    have x1 : Sxb p S S1 := by rw [hS1]; exact Sxb.put
    have hm4 : decide ((400 : Int) < (m : Int) + 1) = false := decide_eq_false (by omega)
    refine ⟨rfl, ?_⟩
    unfold ir39
    simp only [enc]
    walk_at "s"; walk_at "e"
    simp only [hp]
    walk_at "e"
    rw [← hS1]
    walk_at "s"; walk_at "e"
    simp only [hk0, hp1]
    walk_at "e"
    simp only [hm4]
    walk_at "e"
    walk_at "s"
    walk_at "s"; walk_at "e"
    refine w_form rfl ?_
    walk_at "s"; walk_at "e"
    refine eqW_of rfl rfl (by decide) ?_
    walk_at "e"
    walk_at "s"; walk_at "e"
    refine w_int ?_
    simp only [clo, decide_eq_true_eq] at hc
    rw [decide_eq_true (by omega), decide_eq_true (by omega)]
    exact q _ x1 (by rw [hp1]; rfl)
  | nm l =>
    intro a k m n S Q E hn hk hm hg hc hp q
    simp only [dp, sz] at hn hk hm q
    obtain ⟨n, rfl⟩ : ∃ j, n = j + 1 := ⟨n - 1, by omega⟩
    have hk0 : ((k : Int) == 0) = false := beq_false_of_ne (by omega)
    obtain ⟨S1, hS1⟩ : ∃ S1, S1 = S.upd p (.ins 0 [(2, .int ((m : Int) + 1))]) := ⟨_, rfl⟩
    have hp1 : S1 p = some (.ins 0 [(2, .int ((m : Int) + 1))]) := by rw [hS1, Sto.upd_same]
    have x1 : Sxb p S S1 := by rw [hS1]; exact Sxb.put
    have hm4 : decide ((400 : Int) < (m : Int) + 1) = false := decide_eq_false (by omega)
    have hgd := enc_gd (.nm l) hg
    refine ⟨rfl, ?_⟩
    unfold ir39
    simp only [enc] at hgd ⊢
    walk_at "s"; walk_at "e"
    simp only [hp]
    walk_at "e"
    rw [← hS1]
    walk_at "s"; walk_at "e"
    simp only [hk0, hp1]
    walk_at "e"
    simp only [hm4]
    walk_at "e"
    walk_at "s"
    walk_at "s"; walk_at "e"
    refine w_form hgd ?_
    walk_at "s"; walk_at "e"
    refine eqW_of rfl rfl (by decide) ?_
    walk_at "e"
    walk_at "s"
    walk_at "s"; walk_at "e"
    refine eqW_of rfl rfl (by decide) ?_
    walk_at "e"
    walk_at "s"; walk_at "e"
    simp only [good] at hg
    refine w_name (nameB_lt hg) (nameB_len hg) fun S2 x2 => ?_
    rw [hg]
    exact q S2 (x1.trans x2.b) (by rw [x2 _ _ hp1]; rfl)
  | fn t ih =>
    intro a k m n S Q E hn hk hm hg hc hp q
    simp only [dp, sz] at hn hk hm q
    obtain ⟨n, rfl⟩ : ∃ j, n = j + 1 := ⟨n - 1, by omega⟩
    have hk0 : ((k : Int) == 0) = false := beq_false_of_ne (by omega)
    obtain ⟨k, rfl⟩ : ∃ j, k = j + 1 := ⟨k - 1, by omega⟩
    obtain ⟨S1, hS1⟩ : ∃ S1, S1 = S.upd p (.ins 0 [(2, .int ((m : Int) + 1))]) := ⟨_, rfl⟩
    have hp1 : S1 p = some (.ins 0 [(2, .int ((m : Int) + 1))]) := by rw [hS1, Sto.upd_same]
    have x1 : Sxb p S S1 := by rw [hS1]; exact Sxb.put
    have hm4 : decide ((400 : Int) < (m : Int) + 1) = false := decide_eq_false (by omega)
    have hgd := enc_gd (.fn t) hg
    refine ⟨rfl, ?_⟩
    unfold ir39
    simp only [enc] at hgd ⊢
    walk_at "s"; walk_at "e"
    simp only [hp]
    walk_at "e"
    rw [← hS1]
    walk_at "s"; walk_at "e"
    simp only [hk0, hp1]
    walk_at "e"
    simp only [hm4]
    walk_at "e"
    walk_at "s"
    walk_at "s"; walk_at "e"
    refine w_form hgd ?_
    walk_at "s"; walk_at "e"
    refine eqW_of rfl rfl (by decide) ?_
    walk_at "e"
    walk_at "s"
    walk_at "s"; walk_at "e"
    refine eqW_of rfl rfl (by decide) ?_
    walk_at "e"
    walk_at "s"
    walk_at "s"; walk_at "e"
    refine eqW_of rfl rfl (by decide) ?_
    walk_at "e"
    walk_at "s"; walk_at "e"
    simp only [hp1, lvl_mt]
    have ea : ((a : Int) + 1) = ((a + 1 : Nat) : Int) := by omega
    have ek : ((k + 1 : Nat) : Int) - 1 = (k : Int) := by omega
    have em : ((m : Int) + 1) = ((m + 1 : Nat) : Int) := by omega
    have ez : ((m + 1 + sz t : Nat) : Int) = ((m + (sz t + 1) : Nat) : Int) := by omega
    show (lvl prg (n + 1)).fn 39 [D.ref p, enc t, D.int ((a : Int) + 1), D.int (((k + 1 : Nat) : Int) - 1)] S1 Q _
    rw [ea, ek]
    rw [em] at hp1
    exact ih (by omega) (by omega) (by omega) hg (by simpa [clo] using hc) hp1 fun S2 x2 hp2 => q S2 (x1.trans x2) (by rw [hp2, ez])
  | cl t u ih ih2 =>
    intro a k m n S Q E hn hk hm hg hc hp q
    simp only [dp, sz] at hn hk hm q
    obtain ⟨n, rfl⟩ : ∃ j, n = j + 1 := ⟨n - 1, by omega⟩
    have hk0 : ((k : Int) == 0) = false := beq_false_of_ne (by omega)
    obtain ⟨k, rfl⟩ : ∃ j, k = j + 1 := ⟨k - 1, by omega⟩
    obtain ⟨S1, hS1⟩ : ∃ S1, S1 = S.upd p (.ins 0 [(2, .int ((m : Int) + 1))]) := ⟨_, rfl⟩
    have hp1 : S1 p = some (.ins 0 [(2, .int ((m : Int) + 1))]) := by rw [hS1, Sto.upd_same]
    have x1 : Sxb p S S1 := by rw [hS1]; exact Sxb.put
    have hm4 : decide ((400 : Int) < (m : Int) + 1) = false := decide_eq_false (by omega)
    have hgd := enc_gd (.cl t u) hg
    refine ⟨rfl, ?_⟩
    unfold ir39
    simp only [enc] at hgd ⊢
    walk_at "s"; walk_at "e"
    simp only [hp]
    walk_at "e"
    rw [← hS1]
    walk_at "s"; walk_at "e"
    simp only [hk0, hp1]
    walk_at "e"
    simp only [hm4]
    walk_at "e"
    walk_at "s"
    walk_at "s"; walk_at "e"
    refine w_form hgd ?_
    walk_at "s"; walk_at "e"
    refine eqW_of rfl rfl (by decide) ?_
    walk_at "e"
    walk_at "s"
    walk_at "s"; walk_at "e"
    refine eqW_of rfl rfl (by decide) ?_
    walk_at "e"
    walk_at "s"
    walk_at "s"; walk_at "e"
    refine eqW_of rfl rfl (by decide) ?_
    walk_at "e"
    walk_at "s"; walk_at "e"
    walk_at "s"; walk_at "e"
    refine eqW_of rfl rfl (by decide) ?_
    walk_at "e"
    walk_at "s"
    walk_at "s"; walk_at "e"
    simp only [hp1, lvl_mt]
    simp only [clo, Bool.and_eq_true] at hc
    simp only [good, Bool.and_eq_true] at hg
    have ek : ((k + 1 : Nat) : Int) - 1 = (k : Int) := by omega
    have em : ((m : Int) + 1) = ((m + 1 : Nat) : Int) := by omega
    have ez : ((m + 1 + sz t + sz u : Nat) : Int) = ((m + (sz t + sz u + 1) : Nat) : Int) := by omega
    show (lvl prg (n + 1)).fn 39 [D.ref p, enc t, D.int (a : Int), D.int (((k + 1 : Nat) : Int) - 1)] S1 _ _
    rw [ek]
    rw [em] at hp1
    refine ih (by omega) (by omega) (by omega) hg.1 hc.1 hp1 fun S2 x2 hp2 => ?_
    walk_at "e"
    simp only [hp2]
    show (lvl prg (n + 1)).fn 39 [D.ref p, enc u, D.int (a : Int), D.int (k : Int)] S2 Q _
    exact ih2 (by omega) (by omega) (by omega) hg.2 hc.2 hp2 fun S3 x3 hp3 => q S3 ((x1.trans x2).trans x3) (by rw [hp3, ez])
/-- is_term of a closed term -/
theorem w_isterm {t : Tm} {n : Nat} {S : Sto} {Q : QD} {E : QX} (hn : dp t + 1 ≤ n) (hd : dp t ≤ 100) (hz : sz t ≤ 400) (hg : good t = true) (hc : clo 0 t = true) (q : ∀ S', Sx S S' → Q (.bl true) S') : (lvl prg (n + 2)).fn 3 [enc t] S Q E := by
  refine ⟨rfl, ?_⟩
  unfold ir3
  walk_at "s"; walk_at "e"
  intro p hp
  show (lvl prg n).fn 38 [D.ref p] (S.upd p (.ins 0 [])) _ _
  obtain ⟨n, rfl⟩ : ∃ j, n = j + 1 := ⟨n - 1, by omega⟩
  refine ⟨rfl, ?_⟩
  unfold ir38
  walk_at "s"; walk_at "e"
  simp only [Sto.upd_same]
  walk_at "e"
  walk_at "s"
  simp only [Sto.upd_same, lvl_mt]
  show (lvl prg (n + 1 + 1)).fn 39 [D.ref p, enc t, D.int 0, D.int 100] _ Q _
  exact w_good (a := 0) (k := 100) (m := 0) (by omega) hd (by omega) hg hc Sto.upd_same fun S2 x2 hp2 => q S2 (((Sxb.put.trans Sxb.put).trans x2).of_new hp)
/-- check_term -/
theorem w_check {t : Tm} {n : Nat} {S : Sto} {Q : QD} {E : QX} (hn : dp t + 1 ≤ n) (hd : dp t ≤ 100) (hz : sz t ≤ 400) (hg : good t = true) (hc : clo 0 t = true) (q : ∀ S', Sx S S' → Q .non S') : (lvl prg (n + 3)).fn 4 [enc t] S Q E := by
  refine ⟨rfl, ?_⟩
  unfold ir4
  walk_at "s"; walk_at "e"
  refine w_isterm hn hd hz hg hc fun S1 x1 => ?_
  walk_at "e"
  walk_at "s"
  walk_at "s"
  exact q S1 x1
end K42
end Mini
end L2
namespace L2
namespace Mini
namespace K42
open PySem PySem.Spec PyProof.Rows
local macro_rules | `(tactic| walk_at "s") => `(tactic| first | with_reducible refine st_set ?_ | with_reducible refine st_ife ?_ | with_reducible refine st_ret ?_ | with_reducible refine st_ex ?_ | with_reducible refine st_unp ?_ | with_reducible refine st_unpl ?_ | with_reducible refine st_unpa ?_ | with_reducible refine st_aug ?_ | with_reducible refine st_for ?_ | with_reducible refine st_whl ?_ | with_reducible refine st_nil ?_ | with_reducible refine st_setix ?_ | with_reducible refine st_raise ?_ | with_reducible refine st_try ?_ | with_reducible refine st_setat ?_ | with_reducible refine st_augat ?_ | with_reducible refine st_pass ?_ | with_reducible refine st_brk ?_ | with_reducible refine st_cnt ?_)
local macro_rules | `(tactic| walk_at "e") => `(tactic| try simp only [fget, fput, eq_self, Nat.reduceEqDiff, and_true, Int.reduceBEq, wpC, goW, List.map_cons, List.map_nil, deq, deqs, List.any_cons, List.any_nil, slW, cut_1, Int.cast_ofNat_Int, Int.natCast_zero, Int.natCast_one, Int.reduceLE, Int.reduceLT, Int.reduceNeg, Int.reduceAdd, Int.reduceSub, decide_true, decide_false, inW_chr, List.contains_cons, List.contains_nil, Bool.or_true, Bool.true_or, Bool.or_false, Bool.false_or, gd, gds, List.all_cons, List.all_nil, Nat.reduceLT, List.zip_cons_cons, List.zip_nil_left, List.foldl_cons, List.foldl_nil, wpT, wpE, wpEs, wpO, wpI, env0, Env.get, List.map, List.length, List.replicate, List.getElem?_cons_zero, List.getElem?_cons_succ, List.nil_append, List.cons_append, List.append_nil, tru, isiW, cmpW, List.set, Nat.reduceSub, Nat.reduceAdd, Bool.not_true, Bool.not_false, Bool.false_eq_true, if_true, if_false, reduceIte, ixW, biW, bmTy, augW, tgW, newW, wpPs, dmerge, sqW_t, sqW_s, binW_ai, binW_si, binW_at, binW_as, binW_mi, binW_di, binW_mo, atI_0, atI_1, atI_2, ex_some, eqW_str, eqW_int, sz0, sz1, sz2, sz3, sz4, sz5, sz6, sz7, sz8, sz9, sz10, sz11, sz12, sz13, sz14, true_and, Bool.false_xor, Bool.true_xor, lb_cc, lb_nc, lb_cn, lb_nn, Nat.reduceBEq, Bool.and_true, Bool.true_and, Bool.false_and, Bool.and_false, beq_self_eq_true, binW_ms])
local macro_rules | `(tactic| walk_at "r") => `(tactic| ((try walk_at "s"); walk_at "e"; repeat (walk_at "s"; walk_at "e")))
local macro_rules | `(tactic| walk_at "w") => `(tactic| simp only [wpSs, wpS, wpT, wpE, wpEs, wpO, wpI, env0, Env.get, List.map, List.length, List.replicate, List.getElem?_cons_zero, List.getElem?_cons_succ, List.nil_append, List.cons_append, List.append_nil, tru, isiW, cmpW, List.set, Nat.reduceSub, Nat.reduceAdd, Bool.not_true, Bool.not_false, Bool.false_eq_true, if_true, if_false, reduceIte, ixW, biW, bmTy, sqW_t, sqW_s, binW_ai, binW_si, binW_at, binW_as, binW_mi, binW_di, binW_mo, atI_0, atI_1, atI_2, ex_some, eqW_str, eqW_int, sz0, sz1, sz2, sz3, sz4, sz5, sz6, sz7, sz11, true_and, Bool.false_xor, Bool.true_xor, lb_cc, lb_nc, lb_cn, lb_nn, Nat.reduceBEq, Bool.and_true, Bool.true_and, Bool.false_and, Bool.and_false, beq_self_eq_true])
local macro_rules | `(tactic| walk_at "q") => `(tactic| refine eqW_of rfl rfl (Nat.le_of_ble_eq_true rfl) ?_)
local macro_rules | `(tactic| walk_at "g") => `(tactic| (walk_at "r"; repeat (walk_at "q"; walk_at "r")))
theorem for_funs {n : Nat} {S : Sto} {K : En} {X : EX} {x : D} (lv : Sto → Prop) : ∀ (ds : List D) (t : Tm) (o : Option D),
    (∀ o, K.nx [some x, some (enc (fns ds.length t)), o] S) →
    forW (fun _ => True) (.nm 2) (fun K σ S => wpSs (lvl prg n) (forBody ir25) K X σ S) K ds [some x, some (enc t), o] S
  | [], t, o, q => ⟨True.intro, q o⟩
  | d :: ds, t, o, q => by
    refine forW_step True.intro rfl fun K' knx _ krt _ => ?_
    dsimp only [forBody, ir25]
    walk_at "s"; walk_at "e"
    walk_at "s"
    exact knx _ _ (for_funs lv ds (.fn t) _ q)
/-- _law_funs -/
theorem w_funs {k : Nat} {t : Tm} {n : Nat} {S : Sto} {Q : QD} {E : QX} (hk : k < 1000) (q : Q (enc (fns k t)) S) : (lvl prg (n + 1)).fn 25 [.int k, enc t] S Q E := by
  refine ⟨rfl, ?_⟩
  unfold ir25
  walk_at "s"; walk_at "e"
  have hl : (rngD 0 ((k : Int)).toNat).length = k := by simp [rngD]
  refine ⟨by omega, by omega, for_funs (fun _ => True) _ t none fun o => ?_⟩
  rw [hl]
  dsimp only
  walk_at "s"; walk_at "e"
  exact q
def clsD (h : D) (l : List D) : D := l.foldl (fun h x => .tup [sCl, h, x]) h
theorem clsD_enc : ∀ (l : List Tm) (h : Tm), clsD (enc h) (l.map enc) = enc (Mini.cls h l)
  | [], _ => rfl
  | a :: l, h => clsD_enc l (.cl h a)
/-- the calls, in a list or a tuple laid out -/
theorem for_calls {n : Nat} {lv : Sto → Prop} {K : En} {X : EX} {x : D} {S : Sto} (h : lv S) : ∀ (l : List D) (t : D) (o : Option D),
    (∀ o, K.nx [some (clsD t l), some x, o] S) →
    forW lv (.nm 2) (fun K σ S => wpSs (lvl prg n) (forBody ir26) K X σ S) K l [some t, some x, o] S
  | [], t, o, q => ⟨h, q o⟩
  | a :: l, t, o, q => by
    refine forW_step h rfl fun K' knx _ krt _ => ?_
    dsimp only [forBody, ir26]
    walk_at "s"; walk_at "e"
    walk_at "s"
    exact knx _ _ (for_calls h l _ _ q)
/-- _law_calls -/
theorem w_callsD {a : Addr} {l : List D} {t : D} {n : Nat} {S : Sto} {Q : QD} {E : QX} (h : rd S a = some l) (q : Q (clsD t l) S) : (lvl prg (n + 1)).fn 26 [t, .ref a] S Q E := by
  refine ⟨rfl, ?_⟩
  unfold ir26
  walk_at "s"; walk_at "e"
  refine sqW_r h ?_
  refine for_calls h l t none fun o => ?_
  dsimp only
  walk_at "s"; walk_at "e"
  exact q
theorem w_calls {a : Addr} {l : List Tm} {t : Tm} {n : Nat} {S : Sto} {Q : QD} {E : QX} (h : rd S a = some (l.map enc)) (q : Q (enc (Mini.cls t l)) S) : (lvl prg (n + 1)).fn 26 [enc t, .ref a] S Q E :=
  w_callsD h (by rw [clsD_enc]; exact q)
theorem for_number {n : Nat} {S : Sto} {K : En} {X : EX} {x : D} : ∀ (ds : List D) (t : Tm) (o : Option D),
    (∀ o, K.nx [some x, some (enc (num ds.length t)), o] S) →
    forW (fun _ => True) (.nm 2) (fun K σ S => wpSs (lvl prg n) (.cons (.set 1 (.tup (.cons (.lit (.str [99, 97, 108, 108])) (.cons (.tup (.cons (.lit (.str [97, 116])) (.cons (.lit (.int 1)) .nil))) (.cons (.var 1) .nil))))) .nil) K X σ S) K ds [some x, some (enc t), o] S
  | [], t, o, q => ⟨True.intro, q o⟩
  | d :: ds, t, o, q => by
    refine forW_step True.intro rfl fun K' knx _ krt _ => ?_
    walk_at "s"; walk_at "e"
    walk_at "s"
    exact knx _ _ (for_number ds (.cl (.av 1) t) _ q)
/-- _law_number -/
theorem w_number {k : Nat} {n : Nat} {S : Sto} {Q : QD} {E : QX} (hk : k < 1000) (q : Q (enc (.fn (.fn (num k (.av 0))))) S) : (lvl prg (n + 1)).fn 27 [.int k] S Q E := by
  refine ⟨rfl, ?_⟩
  unfold ir27
  walk_at "s"; walk_at "e"
  walk_at "s"; walk_at "e"
  have hl : (rngD 0 ((k : Int)).toNat).length = k := by simp [rngD]
  refine ⟨by omega, by omega, for_number _ (.av 0) none fun o => ?_⟩
  rw [hl]
  dsimp only
  walk_at "s"; walk_at "e"
  exact q
theorem w_known {t c : Addr} {n : Nat} {S : Sto} {Q : QD} {E : QX} (h : Tp t c S) (q : ∀ u S', knB u = true → Tp t c S' → Sd t c S S' → Q (enc u) S') : (lvl prg (n + 3)).fn 28 [.ref t] S Q E := by
  refine ⟨rfl, ?_⟩
  unfold ir28
  walk_at "r"
  refine w_funs (n := n + 1) (k := 3) (t := .cl (.av 2) (.cl (.av 1) (.av 0))) (by omega) ?_
  walk_at "r"
  intro p1 hp1
  refine w_calls (n := n + 1) (l := [.av 1, .av 0]) (t := .av 2) rd_upd ?_
  walk_at "e"
  intro p2 hp2
  refine w_calls (n := n + 1) (l := [.av 1, cls (.av 2) [.av 1, .av 0]]) (t := .av 3) rd_upd ?_
  walk_at "e"
  refine w_funs (n := n + 1) (k := 4) (by omega) ?_
  walk_at "r"
  have h2 := (h.new (x := Cell.lst [enc (.av 1), enc (.av 0)]) hp1).new (x := Cell.lst [enc (.av 1), enc (cls (.av 2) [.av 1, .av 0])]) hp2
  have x2 := ((Sd.refl t c S).fresh (x := Cell.lst [enc (.av 1), enc (.av 0)]) hp1).fresh (x := Cell.lst [enc (.av 1), enc (cls (.av 2) [.av 1, .av 0])]) hp2
  refine w_draw (n := n + 1) (m := 4) h2 (by omega) (by omega) fun k S3 hk h3 x3 => ?_
  walk_at "e"
  refine w_number (n := n + 1) (by omega) ?_
  walk_at "e"
  refine w_number (n := n + 1) (k := 2) (by omega) ?_
  walk_at "e"
  intro p3 hp3
  have h4 := h3.new (x := Cell.lst [enc (.fn (.av 0)), enc (.fn (.cl (.av 0) (.av 0))), enc (.fn (.fn (.av 1))), enc (.fn (.fn (.av 0))), enc (fns 3 (.cl (.av 2) (.cl (.av 1) (.av 0)))), enc (fns 4 (cls (.av 3) [.av 1, cls (.av 2) [.av 1, .av 0]])), enc (.cl (.fn (.cl (.av 0) (.av 0))) (.fn (.cl (.av 0) (.av 0)))), enc (.fn (.fn (num k (.av 0)))), enc (.fn (.fn (num 2 (.av 0))))]) hp3
  have n3 := new_tp h3 hp3
  walk_at "r"
  refine ⟨⟨_, Sto.upd_same⟩, ?_⟩
  intro p4 hp4
  have n34 : p3 ≠ p4 := new_ne Sto.upd_same hp4
  have n4 := new_tp h4 hp4
  have h5 := h4.new (x := Cell.lst [enc (.av 0), enc (.cl (.av 1) (.av 0))]) hp4
  refine w_calls (n := n + 1) (l := [.av 0, .cl (.av 1) (.av 0)]) (t := .av 2) rd_upd ?_
  walk_at "e"
  refine w_funs (n := n + 1) (k := 3) (by omega) ?_
  walk_at "e"
  refine bm_app (by rw [Sto.upd_ne n34]; exact Sto.upd_same) (of_eq_true (sz_lt (by simp))) ?_
  walk_at "r"
  have h6 := h5.put (x := Cell.lst ([enc (.fn (.av 0)), enc (.fn (.cl (.av 0) (.av 0))), enc (.fn (.fn (.av 1))), enc (.fn (.fn (.av 0))), enc (fns 3 (.cl (.av 2) (.cl (.av 1) (.av 0)))), enc (fns 4 (cls (.av 3) [.av 1, cls (.av 2) [.av 1, .av 0]])), enc (.cl (.fn (.cl (.av 0) (.av 0))) (.fn (.cl (.av 0) (.av 0)))), enc (.fn (.fn (num k (.av 0)))), enc (.fn (.fn (num 2 (.av 0))))] ++ [enc (fns 3 (cls (.av 2) [.av 0, .cl (.av 1) (.av 0)]))])) n3.1 n3.2
  have x6 := (((x2.trans x3).fresh (x := Cell.lst [enc (.fn (.av 0)), enc (.fn (.cl (.av 0) (.av 0))), enc (.fn (.fn (.av 1))), enc (.fn (.fn (.av 0))), enc (fns 3 (.cl (.av 2) (.cl (.av 1) (.av 0)))), enc (fns 4 (cls (.av 3) [.av 1, cls (.av 2) [.av 1, .av 0]])), enc (.cl (.fn (.cl (.av 0) (.av 0))) (.fn (.cl (.av 0) (.av 0)))), enc (.fn (.fn (num k (.av 0)))), enc (.fn (.fn (num 2 (.av 0))))]) hp3).fresh (x := Cell.lst [enc (.av 0), enc (.cl (.av 1) (.av 0))]) hp4).over (p := p3) (x := Cell.lst ([enc (.fn (.av 0)), enc (.fn (.cl (.av 0) (.av 0))), enc (.fn (.fn (.av 1))), enc (.fn (.fn (.av 0))), enc (fns 3 (.cl (.av 2) (.cl (.av 1) (.av 0)))), enc (fns 4 (cls (.av 3) [.av 1, cls (.av 2) [.av 1, .av 0]])), enc (.cl (.fn (.cl (.av 0) (.av 0))) (.fn (.cl (.av 0) (.av 0)))), enc (.fn (.fn (num k (.av 0)))), enc (.fn (.fn (num 2 (.av 0))))] ++ [enc (fns 3 (cls (.av 2) [.av 0, .cl (.av 1) (.av 0)]))])) ((x2.trans x3).none_of n3.1 n3.2 hp3)
  refine w_pick (n := n + 0) h6 Sto.upd_same n3.1 n3.2 (by simp) (by simp) fun d S7 hd h7 x7 => ?_
  have x8 := x6.trans x7
  simp only [List.cons_append, List.nil_append, List.mem_cons, List.not_mem_nil, or_false] at hd
  rcases hd with rfl | rfl | rfl | rfl | rfl | rfl | rfl | rfl | rfl | rfl
  · exact q (.fn (.av 0)) S7 (by decide) h7 x8
  · exact q (.fn (.cl (.av 0) (.av 0))) S7 (by decide) h7 x8
  · exact q (.fn (.fn (.av 1))) S7 (by decide) h7 x8
  · exact q (.fn (.fn (.av 0))) S7 (by decide) h7 x8
  · exact q (fns 3 (.cl (.av 2) (.cl (.av 1) (.av 0)))) S7 (by decide) h7 x8
  · exact q (fns 4 (Mini.cls (.av 3) [.av 1, Mini.cls (.av 2) [.av 1, .av 0]])) S7 (by decide) h7 x8
  · exact q (.cl (.fn (.cl (.av 0) (.av 0))) (.fn (.cl (.av 0) (.av 0)))) S7 (by decide) h7 x8
  · exact q (.fn (.fn (num k (.av 0)))) S7 (knB_num k hk) h7 x8
  · exact q (.fn (.fn (num 2 (.av 0)))) S7 (by decide) h7 x8
  · exact q (fns 3 (Mini.cls (.av 2) [.av 0, .cl (.av 1) (.av 0)])) S7 (by decide) h7 x8
theorem bound3 {l s : Nat} (h : l ≤ 3) : 20 + l * (2 * s + 1) ≤ 6 * s + 30 := by
  have : l * (2 * s + 1) ≤ 3 * (2 * s + 1) := Nat.mul_le_mul_right _ h
  omega
theorem w_term {t c : Addr} {n : Nat} {S : Sto} {Q : QD} {E : QX} (h : Tp t c S) {size : Nat} (hs9 : 10 ≤ size) (hs60 : size ≤ 60) (hn : size + 10 ≤ n) (q : ∀ u S', Tt (size + 4) (6 * size + 30) u → Tp t c S' → Sd t c S S' → Q (enc u) S') : (lvl prg n).fn 29 [.ref t, .int size] S Q E := by
  obtain ⟨n, rfl⟩ : ∃ j, n = j + 10 := ⟨n - 10, by omega⟩
  refine ⟨rfl, ?_⟩
  unfold ir29
  walk_at "r"
  refine w_draw (n := n + 8) (m := 4) h (by omega) (by omega) fun pk S1 hpk h1 x1 => ?_
  have ek : ((pk : Int) == 0) = (pk == 0) := by cases pk <;> rfl
  have ek1 : ((pk : Int) == 1) = (pk == 1) := by rcases pk with _ | _ | pk <;> first | rfl | (simp; omega)
  walk_at "r"
  rw [ek]
  cases e0 : (pk == 0) with
  | true =>
    walk_at "r"
    refine w_known (n := n + 6) h1 fun u0 S2 k0 h2 x2 => ?_
    walk_at "e"
    refine w_draw (n := n + 8) (m := 4) h2 (by omega) (by omega) fun r S3 hr h3 x3 => ?_
    walk_at "e"
    refine ⟨by omega, by omega, fun p hp => ?_⟩
    have np := new_tp h3 hp
    refine goW_inv (Li t c p r (Tt size (2 * size)) S3) (fun d ds S4 K h4 k4 => ?_) (fun _ _ _ => True.intro) (fun S4 h4 => ?_) _ _ ⟨h3.new hp, (Sd.refl _ _ _).fresh hp, [], Sto.upd_same, fun _ h => (by cases h), by simp [rngD]⟩
    · walk_at "e"
      refine w_known (n := n + 6) h4.tp fun u S5 ku h5 x5 => ?_
      obtain ⟨acc, e1, e2, h6⟩ := h4.push np.1 np.2 hp (by omega) h5 x5 ((Tt.of_kn ku).mono (by omega) (by omega))
      exact ⟨acc, e1, e2, k4 _ h6⟩
    · obtain ⟨us, e1, e2, e3⟩ := h4.l
      refine w_calls (n := n + 8) (rd_lst e1) ?_
      simp only [List.length_nil] at e3
      refine q _ S4 ((Tt.cls ((Tt.of_kn k0).mono (a' := size) (b' := 20) (by omega) (by omega)) (Nat.le_refl _) e2).mono (by omega) (bound3 (by omega))) h4.tp (((x1.trans x2).trans x3).trans h4.x)
  | false =>
    walk_at "r"
    rw [ek1]
    cases e1 : (pk == 1) with
    | true =>
      walk_at "r"
      refine w_known (n := n + 6) h1 fun u0 S2 k0 h2 x2 => ?_
      walk_at "e"
      refine w_draw (n := n + 8) (m := 3) h2 (by omega) (by omega) fun r S3 hr h3 x3 => ?_
      walk_at "e"
      have er : (1 + (r : Int)) = ((1 + r : Nat) : Int) := by omega
      rw [er]
      refine ⟨by omega, by omega, fun p hp => ?_⟩
      have np := new_tp h3 hp
      refine goW_inv (Li t c p (1 + r) (Tt size (2 * size)) S3) (fun d ds S4 K h4 k4 => ?_) (fun _ _ _ => True.intro) (fun S4 h4 => ?_) _ _ ⟨h3.new hp, (Sd.refl _ _ _).fresh hp, [], Sto.upd_same, fun _ h => (by cases h), by simp [rngD]; omega⟩
      · walk_at "e"
        refine w_draw (n := n + 8) (m := size) h4.tp (by omega) (by omega) fun s S5 hs h5 x5 => ?_
        have es : (1 + (s : Int)) = ((1 + s : Nat) : Int) := by omega
        walk_at "e"
        rw [es]
        refine w_part (around := 0) (1 + s) (by omega) (by omega) (by omega) h5 fun u S6 gu cu fu h6 x6 => ?_
        obtain ⟨acc, e1, e2, h7⟩ := h4.push np.1 np.2 hp (by omega) h6 (x5.trans x6) ((Tt.of_fi (k := size) gu cu (by omega)).mono (by omega) (by omega))
        exact ⟨acc, e1, e2, k4 _ h7⟩
      · obtain ⟨us, e1, e2, e3⟩ := h4.l
        refine w_calls (n := n + 8) (rd_lst e1) ?_
        simp only [List.length_nil] at e3
        have : us.length ≤ 3 := by omega
        refine q _ S4 ((Tt.cls ((Tt.of_kn k0).mono (a' := size) (b' := 20) (by omega) (by omega)) (Nat.le_refl _) e2).mono (by omega) (bound3 (by omega))) h4.tp (((x1.trans x2).trans x3).trans h4.x)
    | false =>
      walk_at "r"
      refine w_draw (n := n + 8) (m := size) h1 (by omega) (by omega) fun s S2 hs h2 x2 => ?_
      have es : (2 + (s : Int)) = ((2 + s : Nat) : Int) := by omega
      walk_at "e"
      rw [es]
      refine w_part (around := 0) (2 + s) (by omega) (by omega) (by omega) h2 fun u S3 gu cu fu h3 x3 => ?_
      exact q u S3 ((Tt.of_fi (k := size + 1) gu cu (by omega)).mono (by omega) (by omega)) h3 ((x1.trans x2).trans x3)
end K42
end Mini
end L2
namespace L2
namespace Mini
namespace K42
open PySem PySem.Spec PyProof.Rows
local macro_rules | `(tactic| walk_at "s") => `(tactic| first | with_reducible refine st_set ?_ | with_reducible refine st_ife ?_ | with_reducible refine st_ret ?_ | with_reducible refine st_ex ?_ | with_reducible refine st_unp ?_ | with_reducible refine st_unpl ?_ | with_reducible refine st_unpa ?_ | with_reducible refine st_aug ?_ | with_reducible refine st_for ?_ | with_reducible refine st_whl ?_ | with_reducible refine st_nil ?_ | with_reducible refine st_setix ?_ | with_reducible refine st_raise ?_ | with_reducible refine st_try ?_ | with_reducible refine st_setat ?_ | with_reducible refine st_augat ?_ | with_reducible refine st_pass ?_ | with_reducible refine st_brk ?_ | with_reducible refine st_cnt ?_)
local macro_rules | `(tactic| walk_at "e") => `(tactic| try simp only [fget, fput, eq_self, Nat.reduceEqDiff, and_true, Int.reduceBEq, wpC, goW, List.map_cons, List.map_nil, deq, deqs, List.any_cons, List.any_nil, slW, cut_1, Int.cast_ofNat_Int, Int.natCast_zero, Int.natCast_one, Int.reduceLE, Int.reduceLT, Int.reduceNeg, Int.reduceAdd, Int.reduceSub, decide_true, decide_false, inW_chr, List.contains_cons, List.contains_nil, Bool.or_true, Bool.true_or, Bool.or_false, Bool.false_or, gd, gds, List.all_cons, List.all_nil, Nat.reduceLT, List.zip_cons_cons, List.zip_nil_left, List.foldl_cons, List.foldl_nil, wpT, wpE, wpEs, wpO, wpI, env0, Env.get, List.map, List.length, List.replicate, List.getElem?_cons_zero, List.getElem?_cons_succ, List.nil_append, List.cons_append, List.append_nil, tru, isiW, cmpW, List.set, Nat.reduceSub, Nat.reduceAdd, Bool.not_true, Bool.not_false, Bool.false_eq_true, if_true, if_false, reduceIte, ixW, biW, bmTy, augW, tgW, newW, wpPs, dmerge, sqW_t, sqW_s, binW_ai, binW_si, binW_at, binW_as, binW_mi, binW_di, binW_mo, atI_0, atI_1, atI_2, ex_some, eqW_str, eqW_int, sz0, sz1, sz2, sz3, sz4, sz5, sz6, sz7, sz8, sz9, sz10, sz11, sz12, sz13, sz14, true_and, Bool.false_xor, Bool.true_xor, lb_cc, lb_nc, lb_cn, lb_nn, Nat.reduceBEq, Bool.and_true, Bool.true_and, Bool.false_and, Bool.and_false, beq_self_eq_true, binW_ms])
local macro_rules | `(tactic| walk_at "r") => `(tactic| ((try walk_at "s"); walk_at "e"; repeat (walk_at "s"; walk_at "e")))
local macro_rules | `(tactic| walk_at "w") => `(tactic| simp only [wpSs, wpS, wpT, wpE, wpEs, wpO, wpI, env0, Env.get, List.map, List.length, List.replicate, List.getElem?_cons_zero, List.getElem?_cons_succ, List.nil_append, List.cons_append, List.append_nil, tru, isiW, cmpW, List.set, Nat.reduceSub, Nat.reduceAdd, Bool.not_true, Bool.not_false, Bool.false_eq_true, if_true, if_false, reduceIte, ixW, biW, bmTy, sqW_t, sqW_s, binW_ai, binW_si, binW_at, binW_as, binW_mi, binW_di, binW_mo, atI_0, atI_1, atI_2, ex_some, eqW_str, eqW_int, sz0, sz1, sz2, sz3, sz4, sz5, sz6, sz7, sz11, true_and, Bool.false_xor, Bool.true_xor, lb_cc, lb_nc, lb_cn, lb_nn, Nat.reduceBEq, Bool.and_true, Bool.true_and, Bool.false_and, Bool.and_false, beq_self_eq_true])
local macro_rules | `(tactic| walk_at "q") => `(tactic| refine eqW_of rfl rfl (Nat.le_of_ble_eq_true rfl) ?_)
local macro_rules | `(tactic| walk_at "g") => `(tactic| (walk_at "r"; repeat (walk_at "q"; walk_at "r")))
/-! ### _law_size -/
def szs (rows : List Tm) : Nat := (rows.map sz).sum
theorem szs_snoc (L : List Tm) (r : Tm) : szs (L ++ [r]) = szs L + sz r := by simp [szs]
theorem len_le_szs : ∀ L : List Tm, L.length ≤ szs L
  | [] => Nat.le_refl _
  | r :: L => by
    have h1 := sz_pos r
    have h2 := len_le_szs L
    simp only [szs, List.map_cons, List.sum_cons, List.length_cons] at *
    omega
theorem w_size {u : Tm} {n : Nat} {S : Sto} {Q : QD} {E : QX} (hg : good u = true) (hb : sz u ≤ 100000) (q : ∀ S', Sx S S' → Q (.int (sz u : Int)) S') : (lvl prg (n + 1)).fn 30 [enc u] S Q E := by
  refine ⟨rfl, ?_⟩
  unfold ir30
  walk_at "s"; walk_at "e"
  intro p hp
  walk_at "s"; walk_at "e"
  walk_at "s"
  refine ⟨fun m σ S1 => ∃ (p : Addr) (rows : List Tm) (many : Nat) (o3 o4 : Option D), σ = [some (enc u), some (.ref p), some (.int (many : Int)), o3, o4] ∧ S1 p = some (.lst (rows.map enc)) ∧ S p = none ∧ Sx S S1 ∧ m = szs rows ∧ many + szs rows = sz u ∧ ∀ r ∈ rows, good r = true,
    ⟨sz u, p, [u], 0, none, none, rfl, Sto.upd_same, hp, Sx.new hp, by simp [szs], by simp [szs], fun r hr => (by rw [List.mem_singleton.mp hr]; exact hg)⟩, ?_⟩
  rintro m σ S1 ⟨p, rows, many, o3, o4, rfl, h1, hp, x1, rfl, hm, hr⟩
  walk_at "e"
  simp only [h1, List.length_map]
  rcases snoc_cases rows with rfl | ⟨L, t, rfl⟩
  · walk_at "r"
    simp only [szs, List.map_nil, List.sum_nil, Nat.add_zero] at hm
    have := q S1 x1
    rw [← hm] at this
    exact this
  · rw [decide_eq_true (show (0 : Int) < (((L ++ [t]).length : Nat) : Int) by rw [List.length_append]; simp only [List.length_cons, List.length_nil]; omega)]
    rw [szs_snoc] at hm
    have ht := hr t (by simp)
    have hL : ∀ r ∈ L, good r = true := fun r h => hr r (by simp [h])
    have hz := sz_pos t
    have hl := len_le_szs L
    rw [List.map_append, List.map_cons, List.map_nil] at h1
    walk_at "e"
    walk_at "s"; walk_at "e"
    refine ⟨⟨_, h1⟩, bm_pop h1 ?_⟩
    obtain ⟨S2, hS2⟩ : ∃ S2, S2 = S1.upd p (.lst (L.map enc)) := ⟨_, rfl⟩
    have h2 : S2 p = some (.lst (L.map enc)) := by rw [hS2, Sto.upd_same]
    have x2 : Sx S S2 := by rw [hS2]; exact (x1.b.trans Sxb.put).of_new hp
    rw [← hS2]
    walk_at "s"; walk_at "e"
    have em : ((many : Int) + 1) = ((many + 1 : Nat) : Int) := by omega
    rw [em]
    have fs : (L.map enc).length ≤ 100000 := by rw [List.length_map]; omega
    walk_at "s"
    cases t with
    | av j =>
      simp only [enc]
      walk_at "e"
      refine inW_tup rfl rfl (by decide) ?_
      walk_at "r"
      exact ⟨szs L, by rw [szs_snoc]; simp only [sz]; omega, p, L, many + 1, _, _, rfl, h2, hp, x2, rfl, by simp only [sz] at hm; omega, hL⟩
    | nm w =>
      simp only [enc]
      walk_at "e"
      refine inW_tup rfl rfl (by decide) ?_
      walk_at "r"
      exact ⟨szs L, by rw [szs_snoc]; simp only [sz]; omega, p, L, many + 1, _, _, rfl, h2, hp, x2, rfl, by simp only [sz] at hm; omega, hL⟩
    | fn t =>
      simp only [enc]
      walk_at "e"
      refine inW_tup rfl rfl (by decide) ?_
      walk_at "r"
      intro p2 hp2
      have n2 : p ≠ p2 := new_ne h2 hp2
      refine ⟨[], Sto.upd_same, ?_⟩
      walk_at "e"
      refine ⟨of_eq_true (sz_lt (by decide)), ?_⟩
      refine binW_ll (xs := L.map enc) (ys := [enc t]) (by rw [Sto.upd_ne n2, Sto.upd_ne n2]; exact h2) Sto.upd_same (by simp only [List.length_cons, List.length_nil]; omega) fun p3 hp3 => ?_
      walk_at "r"
      have x3 : Sx S2 ((S2.upd p2 (.lst [])).upd p2 (.lst [enc t])) := (Sxb.put.trans Sxb.put).of_new hp2
      exact ⟨szs (L ++ [t]), by rw [szs_snoc, szs_snoc]; simp only [sz]; omega, p3, L ++ [t], many + 1, _, _, rfl, by rw [Sto.upd_same]; simp, (x2.trans x3).none_at hp3, (x2.trans x3).trans (Sx.new hp3), rfl, by rw [szs_snoc]; simp only [sz] at hm; omega, fun r h => by
        rcases List.mem_append.mp h with h | h
        · exact hL r h
        · rw [List.mem_singleton.mp h]; exact ht⟩
    | cl t v =>
      simp only [enc]
      walk_at "e"
      refine inW_tup rfl rfl (by decide) ?_
      walk_at "r"
      intro p2 hp2
      have n2 : p ≠ p2 := new_ne h2 hp2
      refine ⟨[], Sto.upd_same, ?_⟩
      walk_at "e"
      refine ⟨of_eq_true (sz_lt (by decide)), [enc t], Sto.upd_same, of_eq_true (sz_lt (by simp only [List.length_cons, List.length_nil]; omega)), ?_⟩
      refine binW_ll (xs := L.map enc) (ys := [enc t, enc v]) (by rw [Sto.upd_ne n2, Sto.upd_ne n2, Sto.upd_ne n2]; exact h2) Sto.upd_same (by simp only [List.length_cons, List.length_nil]; omega) fun p3 hp3 => ?_
      walk_at "r"
      simp only [good, Bool.and_eq_true] at ht
      have x3 : Sx S2 (((S2.upd p2 (.lst [])).upd p2 (.lst [enc t])).upd p2 (.lst [enc t, enc v])) := ((Sxb.put.trans Sxb.put).trans Sxb.put).of_new hp2
      exact ⟨szs (L ++ [t] ++ [v]), by rw [szs_snoc, szs_snoc, szs_snoc]; simp only [sz]; omega, p3, L ++ [t] ++ [v], many + 1, _, _, rfl, by rw [Sto.upd_same]; simp, (x2.trans x3).none_at hp3, (x2.trans x3).trans (Sx.new hp3), rfl, by rw [szs_snoc, szs_snoc]; simp only [sz] at hm; omega, fun r h => by
        simp only [List.mem_append, List.mem_singleton] at h
        rcases h with (h | rfl) | rfl
        · exact hL r h
        · exact ht.1
        · exact ht.2⟩
end K42
end Mini
end L2
namespace L2
namespace Mini
namespace K42
open PySem PySem.Spec PyProof.Rows
local macro_rules | `(tactic| walk_at "s") => `(tactic| first | with_reducible refine st_set ?_ | with_reducible refine st_ife ?_ | with_reducible refine st_ret ?_ | with_reducible refine st_ex ?_ | with_reducible refine st_unp ?_ | with_reducible refine st_unpl ?_ | with_reducible refine st_unpa ?_ | with_reducible refine st_aug ?_ | with_reducible refine st_for ?_ | with_reducible refine st_whl ?_ | with_reducible refine st_nil ?_ | with_reducible refine st_setix ?_ | with_reducible refine st_raise ?_ | with_reducible refine st_try ?_ | with_reducible refine st_setat ?_ | with_reducible refine st_augat ?_ | with_reducible refine st_pass ?_ | with_reducible refine st_brk ?_ | with_reducible refine st_cnt ?_)
local macro_rules | `(tactic| walk_at "e") => `(tactic| try simp only [fget, fput, eq_self, Nat.reduceEqDiff, and_true, Int.reduceBEq, wpC, goW, List.map_cons, List.map_nil, deq, deqs, List.any_cons, List.any_nil, slW, cut_1, Int.cast_ofNat_Int, Int.natCast_zero, Int.natCast_one, Int.reduceLE, Int.reduceLT, Int.reduceNeg, Int.reduceAdd, Int.reduceSub, decide_true, decide_false, inW_chr, List.contains_cons, List.contains_nil, Bool.or_true, Bool.true_or, Bool.or_false, Bool.false_or, gd, gds, List.all_cons, List.all_nil, Nat.reduceLT, List.zip_cons_cons, List.zip_nil_left, List.foldl_cons, List.foldl_nil, wpT, wpE, wpEs, wpO, wpI, env0, Env.get, List.map, List.length, List.replicate, List.getElem?_cons_zero, List.getElem?_cons_succ, List.nil_append, List.cons_append, List.append_nil, tru, isiW, cmpW, List.set, Nat.reduceSub, Nat.reduceAdd, Bool.not_true, Bool.not_false, Bool.false_eq_true, if_true, if_false, reduceIte, ixW, biW, bmTy, augW, tgW, newW, wpPs, dmerge, sqW_t, sqW_s, binW_ai, binW_si, binW_at, binW_as, binW_mi, binW_di, binW_mo, atI_0, atI_1, atI_2, ex_some, eqW_str, eqW_int, sz0, sz1, sz2, sz3, sz4, sz5, sz6, sz7, sz8, sz9, sz10, sz11, sz12, sz13, sz14, true_and, Bool.false_xor, Bool.true_xor, lb_cc, lb_nc, lb_cn, lb_nn, Nat.reduceBEq, Bool.and_true, Bool.true_and, Bool.false_and, Bool.and_false, beq_self_eq_true, binW_ms])
local macro_rules | `(tactic| walk_at "r") => `(tactic| ((try walk_at "s"); walk_at "e"; repeat (walk_at "s"; walk_at "e")))
local macro_rules | `(tactic| walk_at "w") => `(tactic| simp only [wpSs, wpS, wpT, wpE, wpEs, wpO, wpI, env0, Env.get, List.map, List.length, List.replicate, List.getElem?_cons_zero, List.getElem?_cons_succ, List.nil_append, List.cons_append, List.append_nil, tru, isiW, cmpW, List.set, Nat.reduceSub, Nat.reduceAdd, Bool.not_true, Bool.not_false, Bool.false_eq_true, if_true, if_false, reduceIte, ixW, biW, bmTy, sqW_t, sqW_s, binW_ai, binW_si, binW_at, binW_as, binW_mi, binW_di, binW_mo, atI_0, atI_1, atI_2, ex_some, eqW_str, eqW_int, sz0, sz1, sz2, sz3, sz4, sz5, sz6, sz7, sz11, true_and, Bool.false_xor, Bool.true_xor, lb_cc, lb_nc, lb_cn, lb_nn, Nat.reduceBEq, Bool.and_true, Bool.true_and, Bool.false_and, Bool.and_false, beq_self_eq_true])
local macro_rules | `(tactic| walk_at "q") => `(tactic| refine eqW_of rfl rfl (Nat.le_of_ble_eq_true rfl) ?_)
local macro_rules | `(tactic| walk_at "g") => `(tactic| (walk_at "r"; repeat (walk_at "q"; walk_at "r")))
/-! ### made, _law_size -/
abbrev rowD (r : Tm × Nat) : D := .tup [enc r.1, .int (r.2 : Int)]
def ssz (rows : List (Tm × Nat)) : Nat := (rows.map fun r => sz r.1).sum
theorem ssz_snoc (L : List (Tm × Nat)) (r : Tm × Nat) : ssz (L ++ [r]) = ssz L + sz r.1 := by simp [ssz]
theorem gds_rows : ∀ rows : List (Tm × Nat), (∀ r ∈ rows, good r.1 = true) → gds (rows.map rowD) = true
  | [], _ => rfl
  | r :: rows, h => by
    have h1 := enc_gd r.1 (h r List.mem_cons_self)
    have h2 := gds_rows rows fun x hx => h x (List.mem_cons_of_mem _ hx)
    simp [gds, gd, h1, h2]
theorem len_le_ssz : ∀ L : List (Tm × Nat), L.length ≤ ssz L
  | [] => Nat.le_refl _
  | r :: L => by
    have h1 := sz_pos r.1
    have h2 := len_le_ssz L
    simp only [ssz, List.map_cons, List.sum_cons, List.length_cons] at *
    omega
theorem isEmpty_snoc {α : Type} (L : List α) (b : α) : (L ++ [b]).isEmpty = false := by cases L <;> rfl
theorem w_made {u : Tm} {n : Nat} {S : Sto} {Q : QD} {E : QX} (hg : good u = true) (hb : sz u ≤ 1000000) (q : ∀ S', Sx S S' → sz u ≤ 4000 → dp u ≤ 300 → Q (enc u) S') (e : ∀ S', Sx S S' → 4000 < sz u ∨ 300 < dp u → E ⟨4, []⟩ S') : (lvl prg (n + 1)).fn 5 [enc u] S Q E := by
  refine ⟨rfl, ?_⟩
  unfold ir5
  walk_at "s"; walk_at "e"
  intro p hp
  walk_at "s"; walk_at "e"
  walk_at "s"
  refine ⟨fun m σ S1 => ∃ (rows : List (Tm × Nat)) (many : Nat) (o3 o4 : Option D), σ = [some (enc u), some (.ref p), some (.int (many : Int)), o3, o4] ∧ S1 p = some (.lst (rows.map rowD)) ∧ Sxb p S S1 ∧ m = ssz rows ∧ many + ssz rows = sz u ∧ (∀ r ∈ rows, good r.1 = true ∧ r.2 + dp r.1 ≤ dp u + 1) ∧ ((∃ r ∈ rows, r.2 + dp r.1 = dp u + 1) ∨ dp u ≤ 300) ∧ many ≤ 4000,
    ⟨sz u, [(u, 1)], 0, none, none, rfl, Sto.upd_same, Sxb.put, by simp [ssz], by simp [ssz], fun r hr => (by rw [List.mem_singleton.mp hr]; exact ⟨hg, by dsimp only; omega⟩), .inl ⟨_, List.mem_cons_self, by dsimp only; omega⟩, by omega⟩, ?_⟩
  rintro m σ S1 ⟨rows, many, o3, o4, rfl, h1, x1, rfl, hm, hr, hd, hM⟩
  walk_at "e"
  intro l hl
  have ne : p ≠ l := new_ne h1 hl
  have h1' : (S1.upd l (.lst [])) p = some (.lst (rows.map rowD)) := by rw [Sto.upd_ne ne]; exact h1
  have x1' : Sxb p S (S1.upd l (.lst [])) := x1.trans (Sx.new hl).b
  refine eqW_nil (rd_lst h1') (gds_rows rows fun r h => (hr r h).1) rd_upd ?_
  rcases snoc_cases rows with rfl | ⟨L, r, rfl⟩
  · walk_at "r"
    simp only [ssz, List.map_nil, List.sum_nil] at hm
    refine q _ (x1'.of_new hp) (by omega) ?_
    rcases hd with ⟨r, h, _⟩ | h
    · cases h
    · exact h
  · rw [List.map_append, List.map_cons, List.map_nil] at h1' ⊢
    rw [isEmpty_snoc]
    rw [ssz_snoc] at hm
    have hrr := hr r (by simp)
    have hrL : ∀ x ∈ L, good x.1 = true ∧ x.2 + dp x.1 ≤ dp u + 1 := fun x hx => hr x (by simp [hx])
    have hz := sz_pos r.1
    have hdd := dp_pos r.1
    walk_at "e"
    walk_at "s"; walk_at "e"
    refine ⟨⟨_, h1'⟩, bm_pop h1' ?_⟩
    walk_at "r"
    obtain ⟨S2, hS2⟩ : ∃ S2, S2 = (S1.upd l (.lst [])).upd p (.lst (L.map rowD)) := ⟨_, rfl⟩
    have h2 : S2 p = some (.lst (L.map rowD)) := by rw [hS2, Sto.upd_same]
    have x2 : Sxb p S S2 := by rw [hS2]; exact x1'.trans Sxb.put
    rw [← hS2]
    have em : ((many : Int) + 1) = ((many + 1 : Nat) : Int) := by omega
    rw [em]
    obtain ⟨t, d⟩ := r
    dsimp only at hrr hz hdd hm ⊢
    cases c1 : decide ((4000 : Int) < ((many + 1 : Nat) : Int)) with
    | true =>
      have c1 := of_decide_eq_true c1
      walk_at "r"
      rw [lvl_xfl]
      exact ⟨rfl, e _ (x2.of_new hp) (.inl (by omega))⟩
    | false =>
      have c1 := of_decide_eq_false c1
      walk_at "e"
      cases c2 : decide ((300 : Int) < (d : Int)) with
      | true =>
        have c2 := of_decide_eq_true c2
        walk_at "r"
        rw [lvl_xfl]
        exact ⟨rfl, e _ (x2.of_new hp) (.inr (by omega))⟩
      | false =>
        have c2 := of_decide_eq_false c2
        have leaf : ∀ {L2 : List (Tm × Nat)}, dp t = 1 → ((∃ r ∈ L ++ [(t, d)], r.2 + dp r.1 = dp u + 1) ∨ dp u ≤ 300) → ((∃ r ∈ L ++ L2, r.2 + dp r.1 = dp u + 1) ∨ dp u ≤ 300) := fun {L2} ht h => by
          rcases h with ⟨r, hr, er⟩ | h
          · rcases List.mem_append.mp hr with hr | hr
            · exact .inl ⟨r, List.mem_append_left _ hr, er⟩
            · rw [List.mem_singleton.mp hr] at er
              dsimp only at er
              exact .inr (by omega)
          · exact .inr h
        have szl := len_le_ssz L
        cases t with
        | av j =>
          simp only [enc]
          walk_at "r"
          have := leaf (L2 := []) rfl hd
          rw [List.append_nil] at this
          exact ⟨ssz L, by rw [ssz_snoc]; simp only [sz]; omega, L, many + 1, _, _, rfl, h2, x2, rfl, by simp only [sz] at hm; omega, hrL, this, by omega⟩
        | nm w =>
          simp only [enc]
          walk_at "r"
          have := leaf (L2 := []) rfl hd
          rw [List.append_nil] at this
          exact ⟨ssz L, by rw [ssz_snoc]; simp only [sz]; omega, L, many + 1, _, _, rfl, h2, x2, rfl, by simp only [sz] at hm; omega, hrL, this, by omega⟩
        | fn t =>
          simp only [enc]
          simp only [sz] at hm
          walk_at "r"
          have ed : ((d : Int) + 1) = ((d + 1 : Nat) : Int) := by omega
          rw [ed]
          refine ⟨⟨_, h2⟩, bm_app h2 (of_eq_true (sz_lt (by rw [List.length_map]; omega))) ?_⟩
          walk_at "s"
          simp only [good, dp] at hrr
          refine ⟨ssz (L ++ [(t, d + 1)]), by rw [ssz_snoc, ssz_snoc]; simp only [sz]; omega, L ++ [(t, d + 1)], many + 1, _, _, rfl, by rw [Sto.upd_same]; simp, x2.trans Sxb.put, rfl, by rw [ssz_snoc]; dsimp only; omega, fun x hx => ?_, ?_, by omega⟩
          · rcases List.mem_append.mp hx with hx | hx
            · exact hrL x hx
            · rw [List.mem_singleton.mp hx]; exact ⟨hrr.1, by dsimp only; omega⟩
          · rcases hd with ⟨r, hr, er⟩ | h
            · rcases List.mem_append.mp hr with hr | hr
              · exact .inl ⟨r, List.mem_append_left _ hr, er⟩
              · rw [List.mem_singleton.mp hr] at er
                simp only [dp] at er
                exact .inl ⟨(t, d + 1), by simp, by dsimp only; omega⟩
            · exact .inr h
        | cl t v =>
          simp only [enc]
          simp only [sz] at hm
          walk_at "r"
          have ed : ((d : Int) + 1) = ((d + 1 : Nat) : Int) := by omega
          rw [ed]
          have zt := sz_pos t
          have zv := sz_pos v
          refine ⟨⟨_, h2⟩, bm_app h2 (of_eq_true (sz_lt (by rw [List.length_map]; omega))) ?_⟩
          walk_at "r"
          rw [ed]
          refine ⟨⟨_, Sto.upd_same⟩, bm_app Sto.upd_same (of_eq_true (sz_lt (by rw [List.length_append, List.length_map]; simp only [List.length_cons, List.length_nil]; omega))) ?_⟩
          walk_at "s"
          simp only [good, dp, Bool.and_eq_true] at hrr
          refine ⟨ssz (L ++ [(t, d + 1)] ++ [(v, d + 1)]), by rw [ssz_snoc, ssz_snoc, ssz_snoc]; simp only [sz]; omega, L ++ [(t, d + 1)] ++ [(v, d + 1)], many + 1, _, _, rfl, by rw [Sto.upd_same]; simp, (x2.trans Sxb.put).trans Sxb.put, rfl, by rw [ssz_snoc, ssz_snoc]; dsimp only; omega, fun x hx => ?_, ?_, by omega⟩
          · simp only [List.mem_append, List.mem_singleton] at hx
            rcases hx with (hx | rfl) | rfl
            · exact hrL x hx
            · exact ⟨hrr.1.1, by dsimp only; omega⟩
            · exact ⟨hrr.1.2, by dsimp only; omega⟩
          · rcases hd with ⟨r, hr, er⟩ | h
            · rcases List.mem_append.mp hr with hr | hr
              · exact .inl ⟨r, by simp [hr], er⟩
              · rw [List.mem_singleton.mp hr] at er
                simp only [dp] at er
                by_cases hx : dp v ≤ dp t
                · exact .inl ⟨(t, d + 1), by simp, by dsimp only; omega⟩
                · exact .inl ⟨(v, d + 1), by simp, by dsimp only; omega⟩
            · exact .inr h
end K42
end Mini
end L2
namespace L2
namespace Mini
namespace K42
open PySem PySem.Spec PyProof.Rows
local macro_rules | `(tactic| walk_at "s") => `(tactic| first | with_reducible refine st_set ?_ | with_reducible refine st_ife ?_ | with_reducible refine st_ret ?_ | with_reducible refine st_ex ?_ | with_reducible refine st_unp ?_ | with_reducible refine st_unpl ?_ | with_reducible refine st_unpa ?_ | with_reducible refine st_aug ?_ | with_reducible refine st_for ?_ | with_reducible refine st_whl ?_ | with_reducible refine st_nil ?_ | with_reducible refine st_setix ?_ | with_reducible refine st_raise ?_ | with_reducible refine st_try ?_ | with_reducible refine st_setat ?_ | with_reducible refine st_augat ?_ | with_reducible refine st_pass ?_ | with_reducible refine st_brk ?_ | with_reducible refine st_cnt ?_)
local macro_rules | `(tactic| walk_at "e") => `(tactic| try simp only [fget, fput, eq_self, Nat.reduceEqDiff, and_true, Int.reduceBEq, wpC, goW, List.map_cons, List.map_nil, deq, deqs, List.any_cons, List.any_nil, slW, cut_1, Int.cast_ofNat_Int, Int.natCast_zero, Int.natCast_one, Int.reduceLE, Int.reduceLT, Int.reduceNeg, Int.reduceAdd, Int.reduceSub, decide_true, decide_false, inW_chr, List.contains_cons, List.contains_nil, Bool.or_true, Bool.true_or, Bool.or_false, Bool.false_or, gd, gds, List.all_cons, List.all_nil, Nat.reduceLT, List.zip_cons_cons, List.zip_nil_left, List.foldl_cons, List.foldl_nil, wpT, wpE, wpEs, wpO, wpI, env0, Env.get, List.map, List.length, List.replicate, List.getElem?_cons_zero, List.getElem?_cons_succ, List.nil_append, List.cons_append, List.append_nil, tru, isiW, cmpW, List.set, Nat.reduceSub, Nat.reduceAdd, Bool.not_true, Bool.not_false, Bool.false_eq_true, if_true, if_false, reduceIte, ixW, biW, bmTy, augW, tgW, newW, wpPs, dmerge, sqW_t, sqW_s, binW_ai, binW_si, binW_at, binW_as, binW_mi, binW_di, binW_mo, atI_0, atI_1, atI_2, ex_some, eqW_str, eqW_int, sz0, sz1, sz2, sz3, sz4, sz5, sz6, sz7, sz8, sz9, sz10, sz11, sz12, sz13, sz14, true_and, Bool.false_xor, Bool.true_xor, lb_cc, lb_nc, lb_cn, lb_nn, Nat.reduceBEq, Bool.and_true, Bool.true_and, Bool.false_and, Bool.and_false, beq_self_eq_true, binW_ms])
local macro_rules | `(tactic| walk_at "r") => `(tactic| ((try walk_at "s"); walk_at "e"; repeat (walk_at "s"; walk_at "e")))
local macro_rules | `(tactic| walk_at "w") => `(tactic| simp only [wpSs, wpS, wpT, wpE, wpEs, wpO, wpI, env0, Env.get, List.map, List.length, List.replicate, List.getElem?_cons_zero, List.getElem?_cons_succ, List.nil_append, List.cons_append, List.append_nil, tru, isiW, cmpW, List.set, Nat.reduceSub, Nat.reduceAdd, Bool.not_true, Bool.not_false, Bool.false_eq_true, if_true, if_false, reduceIte, ixW, biW, bmTy, sqW_t, sqW_s, binW_ai, binW_si, binW_at, binW_as, binW_mi, binW_di, binW_mo, atI_0, atI_1, atI_2, ex_some, eqW_str, eqW_int, sz0, sz1, sz2, sz3, sz4, sz5, sz6, sz7, sz11, true_and, Bool.false_xor, Bool.true_xor, lb_cc, lb_nc, lb_cn, lb_nn, Nat.reduceBEq, Bool.and_true, Bool.true_and, Bool.false_and, Bool.and_false, beq_self_eq_true])
local macro_rules | `(tactic| walk_at "q") => `(tactic| refine eqW_of rfl rfl (Nat.le_of_ble_eq_true rfl) ?_)
local macro_rules | `(tactic| walk_at "g") => `(tactic| (walk_at "r"; repeat (walk_at "q"; walk_at "r")))
theorem w_form_non {n : Nat} {S : Sto} {Q : QD} {E : QX} (q : Q (.tup [.str [], .int 0]) S) : (lvl prg (n + 1)).fn 2 [.non] S Q E := by
  refine ⟨rfl, ?_⟩
  unfold ir2
  walk_at "r"
  exact q
theorem w_form_nil {n : Nat} {S : Sto} {Q : QD} {E : QX} (q : Q (.tup [.str [], .int 0]) S) : (lvl prg (n + 1)).fn 2 [.tup []] S Q E := by
  refine ⟨rfl, ?_⟩
  unfold ir2
  walk_at "g"
  exact q
theorem w_form_lst {n : Nat} {a : Addr} {ds : List D} {S : Sto} {Q : QD} {E : QX} (h : S a = some (.lst ds)) (q : Q (.tup [.str [], .int 0]) S) : (lvl prg (n + 1)).fn 2 [.ref a] S Q E := by
  refine ⟨rfl, ?_⟩
  unfold ir2
  walk_at "r"
  simp only [h]
  walk_at "r"
  exact q
/-- is_good tells no -/
def NoG (v : D) (n : Nat) (S : Sto) : Prop := ∀ (p : Addr) (Q : QD) (E : QX) (S1 : Sto), Sx S S1 → S1 p = some (.ins 0 [(2, .int 0)]) → S p = none → (∀ S', Sxb p S1 S' → Q (.bl false) S') → (lvl prg (n + 4)).fn 39 [.ref p, v, .int 0, .int 100] S1 Q E
/-- the start of is_good -/
theorem w_good_form {p : Addr} {v : D} {n : Nat} {S : Sto} {Q : QD} {E : QX} {a k m : Int} (s : List Nat) (z : Int) (hp : S p = some (.ins 0 [(2, .int m)])) (hk : (k == 0) = false) (hm : m < 400) (hf : ∀ (Q : QD) (E : QX) (S1 : Sto), Sxb p S S1 → Q (.tup [.str s, .int z]) S1 → (lvl prg (n + 1)).fn 2 [v] S1 Q E)
    (q : ∀ S1, Sxb p S S1 → S1 p = some (.ins 0 [(2, .int (m + 1))]) → wpSs (lvl prg (n + 1)) (match ir39 with | .cons _ (.cons _ (.cons _ r)) => r | _ => .nil) { nx := fun _ S' => Q D.non S', rt := Q } (fun x _ S' => E x S') [some (.ref p), some v, some (.int a), some (.int k), some (.tup [.str s, .int z])] S1) : (lvl prg (n + 2)).fn 39 [.ref p, v, .int a, .int k] S Q E := by
  have hm4 : decide ((400 : Int) < m + 1) = false := decide_eq_false (by omega)
  refine ⟨rfl, ?_⟩
  unfold ir39
  walk_at "s"; walk_at "e"
  simp only [hp]
  walk_at "e"
  walk_at "s"; walk_at "e"
  simp only [hk, Sto.upd_same]
  walk_at "e"
  simp only [hm4]
  walk_at "e"
  walk_at "s"
  walk_at "s"; walk_at "e"
  exact hf _ _ _ Sxb.put (q _ Sxb.put Sto.upd_same)
theorem no_non (n : Nat) (S : Sto) : NoG .non n S := fun p Q E S1 x0 hp _ q => by
  refine w_good_form (n := n + 2) [] 0 hp rfl (by omega) (fun Q E S2 _ q => w_form_non q) fun S2 x2 h2 => ?_
  dsimp only [ir39]
  walk_at "g"
  exact q S2 x2
theorem no_nil (n : Nat) (S : Sto) : NoG (.tup []) n S := fun p Q E S1 x0 hp _ q => by
  refine w_good_form (n := n + 2) [] 0 hp rfl (by omega) (fun Q E S2 _ q => w_form_nil q) fun S2 x2 h2 => ?_
  dsimp only [ir39]
  walk_at "g"
  exact q S2 x2
theorem no_lst {a : Addr} {ds : List D} (n : Nat) {S : Sto} (h : S a = some (.lst ds)) : NoG (.ref a) n S := fun p Q E S1 x0 hp hn q => by
  refine w_good_form (n := n + 2) [] 0 hp rfl (by omega) (fun Q E S2 x q => w_form_lst (ds := ds) (x _ _ (new_ne h hn) (x0 _ _ h)) q) fun S2 x2 h2 => ?_
  dsimp only [ir39]
  walk_at "g"
  exact q S2 x2
theorem no_at (n : Nat) (S : Sto) : NoG (.tup [sAt, .int 0]) n S := fun p Q E S1 x0 hp _ q => by
  refine w_good_form (n := n + 2) [97, 116] 2 hp rfl (by omega) (fun Q E S2 _ q => w_form rfl q) fun S2 x2 h2 => ?_
  dsimp only [ir39]
  walk_at "g"
  refine w_int (n := n + 2) ?_
  exact q S2 x2
theorem no_nmA (n : Nat) (S : Sto) : NoG (.tup [sNm, .str [65]]) n S := fun p Q E S1 x0 hp _ q => by
  refine w_good_form (n := n + 2) [110, 97, 109, 101] 2 hp rfl (by omega) (fun Q E S2 _ q => w_form rfl q) fun S2 x2 h2 => ?_
  dsimp only [ir39]
  walk_at "g"
  exact w_name (l := [65]) rfl (by decide) fun S3 x3 => q S3 (x2.trans x3.b)
theorem no_let (n : Nat) (S : Sto) : NoG (.tup [sNm, .str [108, 101, 116]]) n S := fun p Q E S1 x0 hp _ q => by
  refine w_good_form (n := n + 2) [110, 97, 109, 101] 2 hp rfl (by omega) (fun Q E S2 _ q => w_form rfl q) fun S2 x2 h2 => ?_
  dsimp only [ir39]
  walk_at "g"
  exact w_name (l := [108, 101, 116]) rfl (by decide) fun S3 x3 => q S3 (x2.trans x3.b)
theorem no_call {d : D} (hd : gd d = true) (n : Nat) (S : Sto) : NoG (.tup [sCl, d]) n S := fun p Q E S1 x0 hp _ q => by
  refine w_good_form (n := n + 2) [99, 97, 108, 108] 2 hp rfl (by omega) (fun Q E S2 _ q => w_form (by simp [gd, gds, hd]) q) fun S2 x2 h2 => ?_
  dsimp only [ir39]
  walk_at "g"
  exact q S2 x2
theorem no_fun2 {d e : D} (hd : gd d = true) (he : gd e = true) (n : Nat) (S : Sto) : NoG (.tup [sFn, d, e]) n S := fun p Q E S1 x0 hp _ q => by
  refine w_good_form (n := n + 2) [102, 117, 110] 3 hp rfl (by omega) (fun Q E S2 _ q => w_form (by simp [gd, gds, hd, he]) q) fun S2 x2 h2 => ?_
  dsimp only [ir39]
  walk_at "g"
  exact q S2 x2
theorem no_fun (n : Nat) (S : Sto) : NoG (.tup [sFn, .tup [sAt, .int 1]]) n S := fun p Q E S1 x0 hp _ q => by
  refine w_good_form (n := n + 2) [102, 117, 110] 2 hp rfl (by omega) (fun Q E S2 _ q => w_form rfl q) fun S2 x2 h2 => ?_
  dsimp only [ir39]
  walk_at "g"
  simp only [h2, lvl_mt]
  show (lvl prg (n + 3)).fn 39 [.ref p, .tup [sAt, .int 1], .int 1, .int 99] S2 _ _
  refine w_good_form (n := n + 1) [97, 116] 2 h2 rfl (by omega) (fun Q E S2 _ q => w_form rfl q) fun S3 x3 h3 => ?_
  dsimp only [ir39]
  walk_at "g"
  refine w_int (n := n + 1) ?_
  exact q S3 (x2.trans x3)
/-- check_term refuses it -/
theorem w_check_no {v : D} {n : Nat} {S : Sto} {Q : QD} {E : QX} (hv : NoG v n S) (q : ∀ S', Sx S S' → E ⟨2, []⟩ S') : (lvl prg (n + 6)).fn 4 [v] S Q E := by
  refine ⟨rfl, ?_⟩
  unfold ir4
  walk_at "r"
  refine ⟨rfl, ?_⟩
  unfold ir3
  walk_at "r"
  intro p hp
  have hi : ∀ args S Q E, (lvl prg (n + 4)).ini 0 args S Q E = (lvl prg (n + 3)).fn 38 args S Q E := fun _ _ _ _ => rfl
  rw [hi]
  refine ⟨rfl, ?_⟩
  unfold ir38
  walk_at "s"; walk_at "e"
  simp only [Sto.upd_same]
  walk_at "r"
  simp only [Sto.upd_same, lvl_mt]
  walk_at "e"
  show (lvl prg (n + 4)).fn 39 [D.ref p, v, D.int 0, D.int 100] _ _ _
  have x1 : Sx S ((S.upd p (.ins 0 [])).upd p (.ins 0 [(2, .int 0)])) := (Sxb.put.trans Sxb.put).of_new hp
  refine hv p _ _ _ x1 Sto.upd_same hp fun S2 x2 => ?_
  walk_at "r"
  rw [lvl_xfl]
  exact ⟨rfl, q S2 (((Sxb.put.trans Sxb.put).trans x2).of_new hp)⟩
end K42
end Mini
end L2
namespace L2
namespace Mini
namespace K42
open PySem PySem.Spec PyProof.Rows
local macro_rules | `(tactic| walk_at "s") => `(tactic| first | with_reducible refine st_set ?_ | with_reducible refine st_ife ?_ | with_reducible refine st_ret ?_ | with_reducible refine st_ex ?_ | with_reducible refine st_unp ?_ | with_reducible refine st_unpl ?_ | with_reducible refine st_unpa ?_ | with_reducible refine st_aug ?_ | with_reducible refine st_for ?_ | with_reducible refine st_whl ?_ | with_reducible refine st_nil ?_ | with_reducible refine st_setix ?_ | with_reducible refine st_raise ?_ | with_reducible refine st_try ?_ | with_reducible refine st_setat ?_ | with_reducible refine st_augat ?_ | with_reducible refine st_pass ?_ | with_reducible refine st_brk ?_ | with_reducible refine st_cnt ?_)
local macro_rules | `(tactic| walk_at "e") => `(tactic| try simp only [fget, fput, eq_self, Nat.reduceEqDiff, and_true, Int.reduceBEq, wpC, goW, List.map_cons, List.map_nil, deq, deqs, List.any_cons, List.any_nil, slW, cut_1, Int.cast_ofNat_Int, Int.natCast_zero, Int.natCast_one, Int.reduceLE, Int.reduceLT, Int.reduceNeg, Int.reduceAdd, Int.reduceSub, decide_true, decide_false, inW_chr, List.contains_cons, List.contains_nil, Bool.or_true, Bool.true_or, Bool.or_false, Bool.false_or, gd, gds, List.all_cons, List.all_nil, Nat.reduceLT, List.zip_cons_cons, List.zip_nil_left, List.foldl_cons, List.foldl_nil, wpT, wpE, wpEs, wpO, wpI, env0, Env.get, List.map, List.length, List.replicate, List.getElem?_cons_zero, List.getElem?_cons_succ, List.nil_append, List.cons_append, List.append_nil, tru, isiW, cmpW, List.set, Nat.reduceSub, Nat.reduceAdd, Bool.not_true, Bool.not_false, Bool.false_eq_true, if_true, if_false, reduceIte, ixW, biW, bmTy, augW, tgW, newW, wpPs, dmerge, sqW_t, sqW_s, binW_ai, binW_si, binW_at, binW_as, binW_mi, binW_di, binW_mo, atI_0, atI_1, atI_2, ex_some, eqW_str, eqW_int, sz0, sz1, sz2, sz3, sz4, sz5, sz6, sz7, sz8, sz9, sz10, sz11, sz12, sz13, sz14, true_and, Bool.false_xor, Bool.true_xor, lb_cc, lb_nc, lb_cn, lb_nn, Nat.reduceBEq, Bool.and_true, Bool.true_and, Bool.false_and, Bool.and_false, beq_self_eq_true, binW_ms])
local macro_rules | `(tactic| walk_at "r") => `(tactic| ((try walk_at "s"); walk_at "e"; repeat (walk_at "s"; walk_at "e")))
local macro_rules | `(tactic| walk_at "w") => `(tactic| simp only [wpSs, wpS, wpT, wpE, wpEs, wpO, wpI, env0, Env.get, List.map, List.length, List.replicate, List.getElem?_cons_zero, List.getElem?_cons_succ, List.nil_append, List.cons_append, List.append_nil, tru, isiW, cmpW, List.set, Nat.reduceSub, Nat.reduceAdd, Bool.not_true, Bool.not_false, Bool.false_eq_true, if_true, if_false, reduceIte, ixW, biW, bmTy, sqW_t, sqW_s, binW_ai, binW_si, binW_at, binW_as, binW_mi, binW_di, binW_mo, atI_0, atI_1, atI_2, ex_some, eqW_str, eqW_int, sz0, sz1, sz2, sz3, sz4, sz5, sz6, sz7, sz11, true_and, Bool.false_xor, Bool.true_xor, lb_cc, lb_nc, lb_cn, lb_nn, Nat.reduceBEq, Bool.and_true, Bool.true_and, Bool.false_and, Bool.and_false, beq_self_eq_true])
local macro_rules | `(tactic| walk_at "q") => `(tactic| refine eqW_of rfl rfl (Nat.le_of_ble_eq_true rfl) ?_)
local macro_rules | `(tactic| walk_at "g") => `(tactic| (walk_at "r"; repeat (walk_at "q"; walk_at "r")))
/-! ### rows of combinators with variables -/
def lt : Nat → List Nat
  | 0 => [73]
  | 1 => [75]
  | 2 => [83]
  | 3 => [66]
  | _ => [67]
abbrev sCm : D := .str [99, 111, 109, 98]
inductive Rw where | vr (n : Nat) | nm (w : List Nat) | cb (j : Nat) | cl (a b : Rw)
def enR : Rw → D
  | .vr n => .tup [sAt, .int n]
  | .nm w => .tup [sNm, .str w]
  | .cb j => .tup [sCm, .str (lt j)]
  | .cl a b => .tup [sCl, enR a, enR b]
theorem lt_cases (j : Nat) : lt j = [73] ∧ j = 0 ∨ lt j = [75] ∧ j = 1 ∨ lt j = [83] ∧ j = 2 ∨ lt j = [66] ∧ j = 3 ∨ lt j = [67] ∧ 4 ≤ j := by
  rcases j with _ | _ | _ | _ | j
  · exact .inl ⟨rfl, rfl⟩
  · exact .inr (.inl ⟨rfl, rfl⟩)
  · exact .inr (.inr (.inl ⟨rfl, rfl⟩))
  · exact .inr (.inr (.inr (.inl ⟨rfl, rfl⟩)))
  · exact .inr (.inr (.inr (.inr ⟨rfl, by omega⟩)))
theorem lt_lt (j : Nat) : (lt j).all (fun c => decide (c < 0x110000)) = true := by
  rcases lt_cases j with h | h | h | h | h <;> (rw [h.1]; rfl)
def rs : Rw → Nat
  | .cl a b => rs a + rs b + 1
  | _ => 1
def rp : Rw → Nat
  | .cl a b => max (rp a) (rp b) + 1
  | _ => 1
def rg : Rw → Bool
  | .nm w => nameB w
  | .cl a b => rg a && rg b
  | _ => true
theorem rs_pos (r : Rw) : 1 ≤ rs r := by cases r <;> simp [rs]
theorem rp_pos (r : Rw) : 1 ≤ rp r := by cases r <;> simp [rp]
theorem rp_rs : ∀ r : Rw, 2 * rp r ≤ rs r + 1
  | .vr _ => by simp [rp, rs]
  | .nm _ => by simp [rp, rs]
  | .cb _ => by simp [rp, rs]
  | .cl a b => by
    have := rp_rs a
    have := rp_rs b
    have := rs_pos a
    have := rs_pos b
    simp only [rp, rs]
    omega
theorem enR_gd : ∀ r : Rw, rg r = true → gd (enR r) = true
  | .vr n, _ => rfl
  | .cb j, _ => by
    have := lt_lt j
    simp only [enR, gd, gds, this]
    rfl
  | .nm l, h => by
    have := nameB_lt (l := l) (by simpa [rg] using h)
    simp only [enR, gd, gds] at *
    simp [this]
  | .cl t u, h => by
    simp only [rg, Bool.and_eq_true] at h
    have h1 := enR_gd t h.1
    have h2 := enR_gd u h.2
    simp [enR, gd, gds, h1, h2]
theorem enR_tup (r : Rw) : ∃ a ds, enR r = .tup (a :: ds) := by cases r <;> exact ⟨_, _, rfl⟩
theorem enR_pl : ∀ r : Rw, rg r = true → pl (enR r) = true
  | .vr n, _ => rfl
  | .cb j, _ => by rcases lt_cases j with h | h | h | h | h <;> (simp only [enR]; rw [h.1]; rfl)
  | .nm l, h => by
    have h1 : nameB l = true := by simpa [rg] using h
    have := enc_pl (.nm l) (by simpa [good] using h1)
    simp only [enc, enR, pl, pls] at *
    exact this
  | .cl t u, h => by
    simp only [rg, Bool.and_eq_true] at h
    have h1 := enR_pl t h.1
    have h2 := enR_pl u h.2
    simp [enR, pl, pls, h1, h2]
theorem enR_dd : ∀ r : Rw, dd (enR r) ≤ rp r
  | .vr _ => by simp [enR, dd, dds, rp]
  | .nm _ => by simp [enR, dd, dds, rp]
  | .cb _ => by simp [enR, dd, dds, rp]
  | .cl t u => by have := enR_dd t; have := enR_dd u; simp only [enR, dd, dds, rp]; omega
/-! what is left without the variable 0 -/
def hv : Rw → Bool
  | .vr _ => true
  | .cl a b => hv a || hv b
  | _ => false
def z0 : Rw → Bool
  | .vr 0 => true
  | _ => false
def h0 : Rw → Bool
  | .cl a b => h0 a || h0 b
  | r => z0 r
def lo : Rw → Rw
  | .vr n => .vr (n - 1)
  | .cl a b => .cl (lo a) (lo b)
  | r => r
def wo : Rw → Rw
  | .cl a b => if (h0 a || h0 b) = true then (if h0 a = true then (if h0 b = true then .cl (.cl (.cb 2) (wo a)) (wo b) else .cl (.cl (.cb 4) (wo a)) (lo b)) else (if z0 b = true then lo a else .cl (.cl (.cb 3) (lo a)) (wo b))) else .cl (.cb 1) (lo (.cl a b))
  | r => if h0 r = true then .cb 0 else .cl (.cb 1) (lo r)
def ro : Tm → Rw
  | .av n => .vr n
  | .nm w => .nm w
  | .fn t => wo (ro t)
  | .cl t u => .cl (ro t) (ro u)
theorem lo_rs : ∀ r, rs (lo r) = rs r
  | .vr _ => rfl
  | .nm _ => rfl
  | .cb _ => rfl
  | .cl a b => by simp only [lo, rs, lo_rs a, lo_rs b]
theorem lo_rp : ∀ r, rp (lo r) = rp r
  | .vr _ => rfl
  | .nm _ => rfl
  | .cb _ => rfl
  | .cl a b => by simp only [lo, rp, lo_rp a, lo_rp b]
theorem lo_rg : ∀ r, rg (lo r) = rg r
  | .vr _ => rfl
  | .nm _ => rfl
  | .cb _ => rfl
  | .cl a b => by simp only [lo, rg, lo_rg a, lo_rg b]
theorem lo_hv : ∀ r, hv (lo r) = hv r
  | .vr _ => rfl
  | .nm _ => rfl
  | .cb _ => rfl
  | .cl a b => by simp only [lo, hv, lo_hv a, lo_hv b]
theorem h0_hv : ∀ {r}, h0 r = true → hv r = true
  | .vr _, _ => rfl
  | .nm _, h => by simp [h0, z0] at h
  | .cb _, h => by simp [h0, z0] at h
  | .cl a b, h => by
    simp only [h0, Bool.or_eq_true] at h
    simp only [hv, Bool.or_eq_true]
    exact h.imp h0_hv h0_hv
theorem z0_h0 {r : Rw} (h : z0 r = true) : h0 r = true := by
  cases r with
  | vr n => exact h
  | nm _ => cases h
  | cb _ => cases h
  | cl _ _ => cases h
/-- the four ways of a call -/
theorem wo_cases (a b : Rw) : (h0 a = false ∧ h0 b = false ∧ wo (.cl a b) = .cl (.cb 1) (.cl (lo a) (lo b))) ∨ (h0 a = false ∧ h0 b = true ∧ z0 b = true ∧ wo (.cl a b) = lo a) ∨ (h0 a = false ∧ h0 b = true ∧ z0 b = false ∧ wo (.cl a b) = .cl (.cl (.cb 3) (lo a)) (wo b)) ∨
    (h0 a = true ∧ h0 b = false ∧ wo (.cl a b) = .cl (.cl (.cb 4) (wo a)) (lo b)) ∨ (h0 a = true ∧ h0 b = true ∧ wo (.cl a b) = .cl (.cl (.cb 2) (wo a)) (wo b)) := by
  rw [show wo (.cl a b) = if (h0 a || h0 b) = true then (if h0 a = true then (if h0 b = true then .cl (.cl (.cb 2) (wo a)) (wo b) else .cl (.cl (.cb 4) (wo a)) (lo b)) else (if z0 b = true then lo a else .cl (.cl (.cb 3) (lo a)) (wo b))) else .cl (.cb 1) (lo (.cl a b)) from rfl]
  cases ha : h0 a <;> cases hb : h0 b
  · exact .inl ⟨rfl, rfl, by simp [lo]⟩
  · cases hz : z0 b
    · exact .inr (.inr (.inl ⟨rfl, rfl, rfl, by simp⟩))
    · exact .inr (.inl ⟨rfl, rfl, rfl, by simp⟩)
  · exact .inr (.inr (.inr (.inl ⟨rfl, rfl, by simp⟩)))
  · exact .inr (.inr (.inr (.inr ⟨rfl, rfl, by simp⟩)))
theorem wo_rg : ∀ r, rg (wo r) = rg r
  | .vr n => by unfold wo; cases n <;> simp [h0, z0, rg, lo]
  | .nm w => by simp [wo, h0, z0, rg, lo]
  | .cb j => by simp [wo, h0, z0, rg, lo]
  | .cl a b => by
    have h1 := wo_rg a
    have h2 := wo_rg b
    have h3 := lo_rg a
    have h4 := lo_rg b
    rcases wo_cases a b with h | h | h | h | h
    · rw [h.2.2]; simp [rg, h3, h4]
    · have : rg b = true := by
        cases b with
        | vr _ => rfl
        | nm _ => exact absurd h.2.2.1 (by simp [z0])
        | cb _ => exact absurd h.2.2.1 (by simp [z0])
        | cl _ _ => exact absurd h.2.2.1 (by simp [z0])
      rw [h.2.2.2]; simp [rg, h3, this]
    · rw [h.2.2.2]; simp [rg, h3, h2]
    · rw [h.2.2]; simp [rg, h1, h4]
    · rw [h.2.2]; simp [rg, h1, h2]
theorem ro_rg : ∀ t, rg (ro t) = good t
  | .av _ => rfl
  | .nm _ => rfl
  | .fn t => by simp only [ro, wo_rg, good, ro_rg t]
  | .cl t u => by simp only [ro, rg, good, ro_rg t, ro_rg u]
theorem wo_rs : ∀ r, rs r ≤ rs (wo r) + 2
  | .vr n => by simp only [rs]; omega
  | .nm w => by simp only [rs]; omega
  | .cb j => by simp only [rs]; omega
  | .cl a b => by
    have h1 := wo_rs a
    have h2 := wo_rs b
    have h3 := lo_rs a
    have h4 := lo_rs b
    rcases wo_cases a b with h | h | h | h | h
    · rw [h.2.2]; simp only [rs]; omega
    · have : rs b = 1 := by
        cases b with
        | vr _ => rfl
        | nm _ => rfl
        | cb _ => rfl
        | cl _ _ => exact absurd h.2.2.1 (by simp [z0])
      rw [h.2.2.2]; simp only [rs]; omega
    · rw [h.2.2.2]; simp only [rs]; omega
    · rw [h.2.2]; simp only [rs]; omega
    · rw [h.2.2]; simp only [rs]; omega
/-! closed within k functions -/
def cR (k : Nat) : Rw → Bool
  | .vr n => decide (n < k)
  | .cl a b => cR k a && cR k b
  | _ => true
theorem lo_cR {k : Nat} : ∀ {r}, cR (k + 1) r = true → h0 r = false → cR k (lo r) = true
  | .vr 0, _, h => by simp [h0, z0] at h
  | .vr (n + 1), h, _ => by simp only [cR, lo, decide_eq_true_eq] at *; omega
  | .nm _, _, _ => rfl
  | .cb _, _, _ => rfl
  | .cl a b, h, g => by
    simp only [cR, Bool.and_eq_true] at h
    simp only [h0, Bool.or_eq_false_iff] at g
    simp only [lo, cR, lo_cR h.1 g.1, lo_cR h.2 g.2, Bool.and_true]
theorem wo_cR {k : Nat} : ∀ {r}, cR (k + 1) r = true → cR k (wo r) = true
  | .vr 0, _ => by simp [wo, h0, z0, cR]
  | .vr (n + 1), h => by simp only [cR, decide_eq_true_eq] at h; simp [wo, h0, z0, cR, lo]; omega
  | .nm _, _ => by simp [wo, h0, z0, cR, lo]
  | .cb _, _ => by simp [wo, h0, z0, cR, lo]
  | .cl a b, h => by
    simp only [cR, Bool.and_eq_true] at h
    rcases wo_cases a b with g | g | g | g | g
    · rw [g.2.2]; simp [cR, lo_cR h.1 g.1, lo_cR h.2 g.2.1]
    · rw [g.2.2.2]; exact lo_cR h.1 g.1
    · rw [g.2.2.2]; simp [cR, lo_cR h.1 g.1, wo_cR h.2]
    · rw [g.2.2]; simp [cR, wo_cR h.1, lo_cR h.2 g.2.1]
    · rw [g.2.2]; simp [cR, wo_cR h.1, wo_cR h.2]
theorem ro_cR : ∀ {t : Tm} {k : Nat}, clo k t = true → cR k (ro t) = true
  | .av _, _, h => h
  | .nm _, _, _ => rfl
  | .fn t, k, h => wo_cR (ro_cR (t := t) h)
  | .cl t u, k, h => by
    simp only [clo, Bool.and_eq_true] at h
    simp only [ro, cR, ro_cR h.1, ro_cR h.2, Bool.and_true]
/-! how deep -/
def clf : Rw → Bool
  | .nm _ => true
  | .cb _ => true
  | _ => false
def Ew (k : Nat) : Rw → Nat
  | .vr _ => 1 + 2 * k
  | .cl a b => 1 + max (Ew k a + k + (if (clf a && hv b) = true then k else 0)) (Ew k b)
  | _ => 1
theorem lo_clf : ∀ r, clf (lo r) = clf r
  | .vr _ => rfl
  | .nm _ => rfl
  | .cb _ => rfl
  | .cl _ _ => rfl
theorem E_lo (k : Nat) : ∀ r, Ew k (lo r) = Ew k r
  | .vr _ => rfl
  | .nm _ => rfl
  | .cb _ => rfl
  | .cl a b => by simp only [lo, Ew, E_lo k a, E_lo k b, lo_clf, lo_hv]
theorem E_mono (k : Nat) : ∀ r, Ew k r ≤ Ew (k + 1) r
  | .vr _ => by simp only [Ew]; omega
  | .nm _ => Nat.le_refl _
  | .cb _ => Nat.le_refl _
  | .cl a b => by
    have h1 := E_mono k a
    have h2 := E_mono k b
    simp only [Ew]
    split <;> omega
theorem E_hv (k : Nat) : ∀ {r}, hv r = true → 1 + 2 * k ≤ Ew k r
  | .vr _, _ => Nat.le_refl _
  | .nm _, h => by simp [hv] at h
  | .cb _, h => by simp [hv] at h
  | .cl a b, h => by
    simp only [hv, Bool.or_eq_true] at h
    simp only [Ew]
    rcases h with h | h
    · have := E_hv k h; omega
    · have := E_hv k h; omega
theorem E_pos (k : Nat) (r : Rw) : 1 ≤ Ew k r := by cases r <;> simp only [Ew] <;> omega
theorem E_cmp (k : Nat) (a b : Rw) : 2 + k ≤ Ew k (.cl a b) := by
  have := E_pos k a
  simp only [Ew]
  omega
theorem E_wo (k : Nat) : ∀ {r}, h0 r = true → Ew k (wo r) ≤ Ew (k + 1) r
  | .vr 0, _ => by simp only [wo, h0, z0, if_true, Ew]; omega
  | .vr (n + 1), h => by simp [h0, z0] at h
  | .nm _, h => by simp [h0, z0] at h
  | .cb _, h => by simp [h0, z0] at h
  | .cl a b, h => by
    have pa := E_pos (k + 1) a
    have m1 := E_mono k a
    have m2 := E_mono k b
    have l1 := E_lo k a
    have l2 := E_lo k b
    have cc : ∀ x y : Rw, clf (.cl x y) = false := fun _ _ => rfl
    have c2 : ∀ j, clf (.cb j) = true := fun _ => rfl
    rcases wo_cases a b with g | g | g | g | g
    · simp [h0, g.1, g.2.1] at h
    · rw [g.2.2.2, l1]
      simp only [Ew]
      omega
    · have i2 := E_wo k g.2.1
      have hb := h0_hv g.2.1
      rw [g.2.2.2]
      simp only [Ew, cc, c2, hb, l1, lo_hv, Bool.false_and, Bool.true_and, Bool.and_true, Bool.false_eq_true, if_false, Nat.add_zero]
      cases ha : hv a with
      | true =>
        have := E_hv (k + 1) ha
        simp only [if_true]
        omega
      | false =>
        simp only [Bool.false_eq_true, if_false]
        cases hc : clf a with
        | true => simp only [if_true]; omega
        | false =>
          cases a with
          | vr _ => simp [hv] at ha
          | nm _ => simp [clf] at hc
          | cb _ => simp [clf] at hc
          | cl x y =>
            have := E_cmp (k + 1) x y
            simp only [Bool.false_eq_true, if_false]
            omega
    · have i1 := E_wo k g.1
      have := E_hv (k + 1) (h0_hv g.1)
      rw [g.2.2]
      simp only [Ew, cc, c2, l2, Bool.false_and, Bool.true_and, Bool.false_eq_true, if_false, Nat.add_zero]
      split <;> split <;> omega
    · have i1 := E_wo k g.1
      have i2 := E_wo k g.2.1
      have := E_hv (k + 1) (h0_hv g.1)
      rw [g.2.2]
      simp only [Ew, cc, c2, Bool.false_and, Bool.true_and, Bool.false_eq_true, if_false, Nat.add_zero]
      split <;> split <;> omega
theorem wo_no {r : Rw} (h : h0 r = false) : wo r = .cl (.cb 1) (lo r) := by
  cases r with
  | vr n => simp [wo, h]
  | nm _ => simp [wo, h]
  | cb _ => simp [wo, h]
  | cl a b =>
    simp only [h0, Bool.or_eq_false_iff] at h
    simp [wo, h.1, h.2]
theorem E_wo' (k : Nat) (r : Rw) : Ew k (wo r) ≤ max (Ew (k + 1) r + 1) (2 + k) := by
  cases h : h0 r with
  | true => have := E_wo k h; omega
  | false =>
    rw [wo_no h]
    have m := E_mono k r
    simp only [Ew, E_lo, lo_hv, show clf (.cb 1) = true from rfl, Bool.true_and]
    cases hh : hv r with
    | true =>
      have := E_hv (k + 1) hh
      simp only [if_true]
      omega
    | false =>
      simp only [Bool.false_eq_true, if_false]
      omega
def nf : Tm → Nat
  | .fn t => nf t + 1
  | .cl t u => nf t + nf u
  | _ => 0
def nc : Tm → Nat
  | .fn t => nc t
  | .cl t u => nc t + nc u + 1
  | _ => 0
theorem nf_nc : ∀ t, nf t + nc t = fi t
  | .av _ => rfl
  | .nm _ => rfl
  | .fn t => by have := nf_nc t; simp only [nf, nc, fi]; omega
  | .cl t u => by have := nf_nc t; have := nf_nc u; simp only [nf, nc, fi]; omega
theorem E_ro : ∀ (t : Tm) (k : Nat), Ew k (ro t) ≤ 1 + 2 * (k + nf t) + nc t * (1 + k + nf t) + nf t
  | .av _, k => by simp only [ro, Ew]; omega
  | .nm _, k => by simp only [ro, Ew]; omega
  | .fn t, k => by
    have h1 := E_wo' k (ro t)
    have h2 := E_ro t (k + 1)
    simp only [ro, nf, nc]
    have e : 1 + (k + 1) + nf t = 1 + k + (nf t + 1) := by omega
    rw [e] at h2
    omega
  | .cl t u, k => by
    have h1 := E_ro t k
    have h2 := E_ro u k
    simp only [ro, nf, nc, Ew]
    have e1 : nc t * (1 + k + nf t) ≤ nc t * (1 + k + (nf t + nf u)) := Nat.mul_le_mul_left _ (by omega)
    have e2 : nc u * (1 + k + nf u) ≤ nc u * (1 + k + (nf t + nf u)) := Nat.mul_le_mul_left _ (by omega)
    have e3 : (nc t + nc u + 1) * (1 + k + (nf t + nf u)) = nc t * (1 + k + (nf t + nf u)) + nc u * (1 + k + (nf t + nf u)) + (1 + k + (nf t + nf u)) := by rw [Nat.add_mul, Nat.add_mul, Nat.one_mul]
    rw [e3]
    have e4 : (if (clf (ro t) && hv (ro u)) = true then k else 0) = 0 ∨ (clf (ro t) = true ∧ hv (ro u) = true ∧ (if (clf (ro t) && hv (ro u)) = true then k else 0) = k) := by
      cases clf (ro t) <;> cases hv (ro u) <;> simp
    rcases e4 with e4 | ⟨e5, e6, e4⟩
    · rw [e4]; omega
    · rw [e4]
      have e7 : Ew k (ro t) = 1 := by
        cases hr : ro t with
        | vr _ => rw [hr] at e5; cases e5
        | nm _ => rfl
        | cb _ => rfl
        | cl _ _ => rw [hr] at e5; cases e5
      omega
theorem rp_E : ∀ r, rp r ≤ Ew 0 r
  | .vr _ => by simp only [rp, Ew]; omega
  | .nm _ => Nat.le_refl _
  | .cb _ => Nat.le_refl _
  | .cl a b => by have := rp_E a; have := rp_E b; simp only [rp, Ew]; omega
theorem b200 : ∀ G, G < 25 → ∀ C, C < 25 → G + C ≤ 24 → 1 + 2 * G + C * (1 + G) + G ≤ 200 := by decide
theorem rp_ro {t : Tm} (h : fi t ≤ 24) : rp (ro t) ≤ 200 := by
  have h1 := rp_E (ro t)
  have h2 := E_ro t 0
  have h3 := nf_nc t
  have h4 := b200 (nf t) (by omega) (nc t) (by omega) (by omega)
  have e : 1 + 2 * (0 + nf t) + nc t * (1 + 0 + nf t) + nf t = 1 + 2 * nf t + nc t * (1 + nf t) + nf t := by simp
  omega
/-! how great -/
def Sw (k : Nat) : Rw → Nat
  | .cl a b => 1 + Sw k a + Sw k b + (if hv a = true then k * k + k else if hv b = true then 2 * k else 0)
  | _ => 1
theorem S_lo (k : Nat) : ∀ r, Sw k (lo r) = Sw k r
  | .vr _ => rfl
  | .nm _ => rfl
  | .cb _ => rfl
  | .cl a b => by simp only [lo, Sw, S_lo k a, S_lo k b, lo_hv]
theorem kk (k : Nat) : (k + 1) * (k + 1) + (k + 1) = k * k + 3 * k + 2 := by
  rw [Nat.add_mul, Nat.mul_add, Nat.mul_one, Nat.one_mul]; omega
theorem S_mono (k : Nat) : ∀ r, Sw k r ≤ Sw (k + 1) r
  | .vr _ => Nat.le_refl _
  | .nm _ => Nat.le_refl _
  | .cb _ => Nat.le_refl _
  | .cl a b => by
    have h1 := S_mono k a
    have h2 := S_mono k b
    have h3 := kk k
    simp only [Sw]
    split
    · omega
    · split <;> omega
theorem S_wo (k : Nat) : ∀ {r}, h0 r = true → Sw k (wo r) ≤ Sw (k + 1) r
  | .vr 0, _ => by simp [wo, h0, z0, Sw]
  | .vr (n + 1), h => by simp [h0, z0] at h
  | .nm _, h => by simp [h0, z0] at h
  | .cb _, h => by simp [h0, z0] at h
  | .cl a b, h => by
    have m1 := S_mono k a
    have m2 := S_mono k b
    have l1 := S_lo k a
    have l2 := S_lo k b
    have h3 := kk k
    have hc : ∀ x y, hv (.cl x y) = (hv x || hv y) := fun _ _ => rfl
    have hb : ∀ j, hv (.cb j) = false := fun _ => rfl
    rcases wo_cases a b with g | g | g | g | g
    · simp [h0, g.1, g.2.1] at h
    · rw [g.2.2.2, l1]
      simp only [Sw]
      omega
    · have i2 := S_wo k g.2.1
      have hb2 := h0_hv g.2.1
      rw [g.2.2.2]
      simp only [Sw, hc, hb, l1, lo_hv, Bool.false_or, Bool.false_eq_true, if_false, hb2, if_true]
      cases hv a with
      | true => simp only [if_true]; omega
      | false =>
        simp only [Bool.false_eq_true, if_false]
        split <;> omega
    · have i1 := S_wo k g.1
      have ha2 := h0_hv g.1
      rw [g.2.2]
      simp only [Sw, hc, hb, l2, lo_hv, Bool.false_or, Bool.false_eq_true, if_false, ha2, if_true]
      cases hv (wo a) with
      | true => simp only [if_true]; omega
      | false =>
        simp only [Bool.false_eq_true, if_false]
        split <;> omega
    · have i1 := S_wo k g.1
      have i2 := S_wo k g.2.1
      have ha2 := h0_hv g.1
      rw [g.2.2]
      simp only [Sw, hc, hb, Bool.false_or, Bool.false_eq_true, if_false, ha2, if_true]
      cases hv (wo a) with
      | true => simp only [if_true]; omega
      | false =>
        simp only [Bool.false_eq_true, if_false]
        split <;> omega
theorem S_wo' (k : Nat) (r : Rw) : Sw k (wo r) ≤ Sw (k + 1) r + 2 + 2 * k := by
  cases h : h0 r with
  | true => have := S_wo k h; omega
  | false =>
    rw [wo_no h]
    have m := S_mono k r
    simp only [Sw, S_lo, lo_hv, show hv (.cb 1) = false from rfl, Bool.false_eq_true, if_false]
    split <;> omega
theorem kk650 : ∀ k, k < 26 → k * k + k ≤ 650 := by decide
theorem S_ro : ∀ (t : Tm) (k : Nat), k + fi t ≤ 25 → Sw k (ro t) ≤ 700 * sz t
  | .av _, k, _ => by simp [ro, Sw, sz]
  | .nm _, k, _ => by simp [ro, Sw, sz]
  | .fn t, k, h => by
    simp only [fi] at h
    have h1 := S_wo' k (ro t)
    have h2 := S_ro t (k + 1) (by omega)
    simp only [ro, sz]
    omega
  | .cl t u, k, h => by
    simp only [fi] at h
    have h1 := S_ro t k (by omega)
    have h2 := S_ro u k (by omega)
    have h3 := kk650 k (by omega)
    simp only [ro, sz, Sw]
    split
    · omega
    · split <;> omega
theorem rs_S (k : Nat) : ∀ r, rs r ≤ Sw k r
  | .vr _ => Nat.le_refl _
  | .nm _ => Nat.le_refl _
  | .cb _ => Nat.le_refl _
  | .cl a b => by have := rs_S k a; have := rs_S k b; simp only [rs, Sw]; omega
theorem rs_ro {t : Tm} (h : fi t ≤ 25) : rs (ro t) ≤ 700 * sz t := Nat.le_trans (rs_S 0 _) (S_ro t 0 (by omega))
/-! all within -/
def okd : Tm → Prop
  | .fn t => rp (ro (.fn t)) ≤ 290 ∧ rs (ro (.fn t)) ≤ 200000 ∧ okd t
  | .cl t u => rp (ro (.cl t u)) ≤ 290 ∧ rs (ro (.cl t u)) ≤ 200000 ∧ okd t ∧ okd u
  | _ => True
theorem okd_fi : ∀ {t : Tm}, fi t ≤ 24 → okd t
  | .av _, _ => trivial
  | .nm _, _ => trivial
  | .fn t, h => by
    have h1 := rp_ro h
    have h2 := rs_ro (t := .fn t) (by omega)
    have h3 := fi_sz (.fn t)
    have h5 := h
    simp only [fi] at h
    exact ⟨by omega, by omega, okd_fi (by omega)⟩
  | .cl t u, h => by
    have h1 := rp_ro h
    have h2 := rs_ro (t := .cl t u) (by omega)
    have h3 := fi_sz (.cl t u)
    have h5 := h
    simp only [fi] at h
    exact ⟨by omega, by omega, okd_fi (by omega), okd_fi (by omega)⟩
theorem okd_rp {t : Tm} (h : okd t) : rp (ro t) ≤ 290 ∧ rs (ro t) ≤ 200000 := by
  cases t with
  | av _ => simp [ro, rp, rs]
  | nm _ => simp [ro, rp, rs]
  | fn t => exact ⟨h.1, h.2.1⟩
  | cl t u => exact ⟨h.1, h.2.1⟩
end K42
end Mini
end L2
namespace L2
namespace Mini
namespace K42
open PySem PySem.Spec PyProof.Rows
local macro_rules | `(tactic| walk_at "s") => `(tactic| first | with_reducible refine st_set ?_ | with_reducible refine st_ife ?_ | with_reducible refine st_ret ?_ | with_reducible refine st_ex ?_ | with_reducible refine st_unp ?_ | with_reducible refine st_unpl ?_ | with_reducible refine st_unpa ?_ | with_reducible refine st_aug ?_ | with_reducible refine st_for ?_ | with_reducible refine st_whl ?_ | with_reducible refine st_nil ?_ | with_reducible refine st_setix ?_ | with_reducible refine st_raise ?_ | with_reducible refine st_try ?_ | with_reducible refine st_setat ?_ | with_reducible refine st_augat ?_ | with_reducible refine st_pass ?_ | with_reducible refine st_brk ?_ | with_reducible refine st_cnt ?_)
local macro_rules | `(tactic| walk_at "e") => `(tactic| try simp only [fget, fput, eq_self, Nat.reduceEqDiff, and_true, Int.reduceBEq, wpC, goW, List.map_cons, List.map_nil, deq, deqs, List.any_cons, List.any_nil, slW, cut_1, Int.cast_ofNat_Int, Int.natCast_zero, Int.natCast_one, Int.reduceLE, Int.reduceLT, Int.reduceNeg, Int.reduceAdd, Int.reduceSub, decide_true, decide_false, inW_chr, List.contains_cons, List.contains_nil, Bool.or_true, Bool.true_or, Bool.or_false, Bool.false_or, gd, gds, List.all_cons, List.all_nil, Nat.reduceLT, List.zip_cons_cons, List.zip_nil_left, List.foldl_cons, List.foldl_nil, wpT, wpE, wpEs, wpO, wpI, env0, Env.get, List.map, List.length, List.replicate, List.getElem?_cons_zero, List.getElem?_cons_succ, List.nil_append, List.cons_append, List.append_nil, tru, isiW, cmpW, List.set, Nat.reduceSub, Nat.reduceAdd, Bool.not_true, Bool.not_false, Bool.false_eq_true, if_true, if_false, reduceIte, ixW, biW, bmTy, augW, tgW, newW, wpPs, dmerge, sqW_t, sqW_s, binW_ai, binW_si, binW_at, binW_as, binW_mi, binW_di, binW_mo, atI_0, atI_1, atI_2, ex_some, eqW_str, eqW_int, sz0, sz1, sz2, sz3, sz4, sz5, sz6, sz7, sz8, sz9, sz10, sz11, sz12, sz13, sz14, true_and, Bool.false_xor, Bool.true_xor, lb_cc, lb_nc, lb_cn, lb_nn, Nat.reduceBEq, Bool.and_true, Bool.true_and, Bool.false_and, Bool.and_false, beq_self_eq_true, binW_ms])
local macro_rules | `(tactic| walk_at "r") => `(tactic| ((try walk_at "s"); walk_at "e"; repeat (walk_at "s"; walk_at "e")))
local macro_rules | `(tactic| walk_at "w") => `(tactic| simp only [wpSs, wpS, wpT, wpE, wpEs, wpO, wpI, env0, Env.get, List.map, List.length, List.replicate, List.getElem?_cons_zero, List.getElem?_cons_succ, List.nil_append, List.cons_append, List.append_nil, tru, isiW, cmpW, List.set, Nat.reduceSub, Nat.reduceAdd, Bool.not_true, Bool.not_false, Bool.false_eq_true, if_true, if_false, reduceIte, ixW, biW, bmTy, sqW_t, sqW_s, binW_ai, binW_si, binW_at, binW_as, binW_mi, binW_di, binW_mo, atI_0, atI_1, atI_2, ex_some, eqW_str, eqW_int, sz0, sz1, sz2, sz3, sz4, sz5, sz6, sz7, sz11, true_and, Bool.false_xor, Bool.true_xor, lb_cc, lb_nc, lb_cn, lb_nn, Nat.reduceBEq, Bool.and_true, Bool.true_and, Bool.false_and, Bool.and_false, beq_self_eq_true])
local macro_rules | `(tactic| walk_at "q") => `(tactic| refine eqW_of rfl rfl (Nat.le_of_ble_eq_true rfl) ?_)
local macro_rules | `(tactic| walk_at "g") => `(tactic| (walk_at "r"; repeat (walk_at "q"; walk_at "r")))
/-! ### made, _law_sizeR -/
abbrev rowDR (r : Rw × Nat) : D := .tup [enR r.1, .int (r.2 : Int)]
def sszR (rows : List (Rw × Nat)) : Nat := (rows.map fun r => rs r.1).sum
theorem sszR_snoc (L : List (Rw × Nat)) (r : Rw × Nat) : sszR (L ++ [r]) = sszR L + rs r.1 := by simp [sszR]
theorem gds_rowsR : ∀ rows : List (Rw × Nat), (∀ r ∈ rows, rg r.1 = true) → gds (rows.map rowDR) = true
  | [], _ => rfl
  | r :: rows, h => by
    have h1 := enR_gd r.1 (h r List.mem_cons_self)
    have h2 := gds_rowsR rows fun x hx => h x (List.mem_cons_of_mem _ hx)
    simp [gds, gd, h1, h2]
theorem len_le_sszR : ∀ L : List (Rw × Nat), L.length ≤ sszR L
  | [] => Nat.le_refl _
  | r :: L => by
    have h1 := rs_pos r.1
    have h2 := len_le_sszR L
    simp only [sszR, List.map_cons, List.sum_cons, List.length_cons] at *
    omega
theorem isEmpty_snocR {α : Type} (L : List α) (b : α) : (L ++ [b]).isEmpty = false := by cases L <;> rfl
theorem w_madeR {u : Rw} {n : Nat} {S : Sto} {Q : QD} {E : QX} (hg : rg u = true) (hb : rs u ≤ 1000000) (q : ∀ S', Sx S S' → rs u ≤ 4000 → rp u ≤ 300 → Q (enR u) S') (e : ∀ S', Sx S S' → 4000 < rs u ∨ 300 < rp u → E ⟨4, []⟩ S') : (lvl prg (n + 1)).fn 5 [enR u] S Q E := by
  refine ⟨rfl, ?_⟩
  unfold ir5
  walk_at "s"; walk_at "e"
  intro p hp
  walk_at "s"; walk_at "e"
  walk_at "s"
  refine ⟨fun m σ S1 => ∃ (rows : List (Rw × Nat)) (many : Nat) (o3 o4 : Option D), σ = [some (enR u), some (.ref p), some (.int (many : Int)), o3, o4] ∧ S1 p = some (.lst (rows.map rowDR)) ∧ Sxb p S S1 ∧ m = sszR rows ∧ many + sszR rows = rs u ∧ (∀ r ∈ rows, rg r.1 = true ∧ r.2 + rp r.1 ≤ rp u + 1) ∧ ((∃ r ∈ rows, r.2 + rp r.1 = rp u + 1) ∨ rp u ≤ 300) ∧ many ≤ 4000,
    ⟨rs u, [(u, 1)], 0, none, none, rfl, Sto.upd_same, Sxb.put, by simp [sszR], by simp [sszR], fun r hr => (by rw [List.mem_singleton.mp hr]; exact ⟨hg, by dsimp only; omega⟩), .inl ⟨_, List.mem_cons_self, by dsimp only; omega⟩, by omega⟩, ?_⟩
  rintro m σ S1 ⟨rows, many, o3, o4, rfl, h1, x1, rfl, hm, hr, hd, hM⟩
  walk_at "e"
  intro l hl
  have ne : p ≠ l := new_ne h1 hl
  have h1' : (S1.upd l (.lst [])) p = some (.lst (rows.map rowDR)) := by rw [Sto.upd_ne ne]; exact h1
  have x1' : Sxb p S (S1.upd l (.lst [])) := x1.trans (Sx.new hl).b
  refine eqW_nil (rd_lst h1') (gds_rowsR rows fun r h => (hr r h).1) rd_upd ?_
  rcases snoc_cases rows with rfl | ⟨L, r, rfl⟩
  · walk_at "r"
    simp only [sszR, List.map_nil, List.sum_nil] at hm
    refine q _ (x1'.of_new hp) (by omega) ?_
    rcases hd with ⟨r, h, _⟩ | h
    · cases h
    · exact h
  · rw [List.map_append, List.map_cons, List.map_nil] at h1' ⊢
    rw [isEmpty_snocR]
    rw [sszR_snoc] at hm
    have hrr := hr r (by simp)
    have hrL : ∀ x ∈ L, rg x.1 = true ∧ x.2 + rp x.1 ≤ rp u + 1 := fun x hx => hr x (by simp [hx])
    have hz := rs_pos r.1
    have hdd := rp_pos r.1
    walk_at "e"
    walk_at "s"; walk_at "e"
    refine ⟨⟨_, h1'⟩, bm_pop h1' ?_⟩
    walk_at "r"
    obtain ⟨S2, hS2⟩ : ∃ S2, S2 = (S1.upd l (.lst [])).upd p (.lst (L.map rowDR)) := ⟨_, rfl⟩
    have h2 : S2 p = some (.lst (L.map rowDR)) := by rw [hS2, Sto.upd_same]
    have x2 : Sxb p S S2 := by rw [hS2]; exact x1'.trans Sxb.put
    rw [← hS2]
    have em : ((many : Int) + 1) = ((many + 1 : Nat) : Int) := by omega
    rw [em]
    obtain ⟨t, d⟩ := r
    dsimp only at hrr hz hdd hm ⊢
    cases c1 : decide ((4000 : Int) < ((many + 1 : Nat) : Int)) with
    | true =>
      have c1 := of_decide_eq_true c1
      walk_at "r"
      rw [lvl_xfl]
      exact ⟨rfl, e _ (x2.of_new hp) (.inl (by omega))⟩
    | false =>
      have c1 := of_decide_eq_false c1
      walk_at "e"
      cases c2 : decide ((300 : Int) < (d : Int)) with
      | true =>
        have c2 := of_decide_eq_true c2
        walk_at "r"
        rw [lvl_xfl]
        exact ⟨rfl, e _ (x2.of_new hp) (.inr (by omega))⟩
      | false =>
        have c2 := of_decide_eq_false c2
        have leaf : ∀ {L2 : List (Rw × Nat)}, rp t = 1 → ((∃ r ∈ L ++ [(t, d)], r.2 + rp r.1 = rp u + 1) ∨ rp u ≤ 300) → ((∃ r ∈ L ++ L2, r.2 + rp r.1 = rp u + 1) ∨ rp u ≤ 300) := fun {L2} ht h => by
          rcases h with ⟨r, hr, er⟩ | h
          · rcases List.mem_append.mp hr with hr | hr
            · exact .inl ⟨r, List.mem_append_left _ hr, er⟩
            · rw [List.mem_singleton.mp hr] at er
              dsimp only at er
              exact .inr (by omega)
          · exact .inr h
        have szl := len_le_sszR L
        cases t with
        | vr j =>
          simp only [enR]
          walk_at "r"
          have := leaf (L2 := []) rfl hd
          rw [List.append_nil] at this
          exact ⟨sszR L, by rw [sszR_snoc]; simp only [rs]; omega, L, many + 1, _, _, rfl, h2, x2, rfl, by simp only [rs] at hm; omega, hrL, this, by omega⟩
        | nm w =>
          simp only [enR]
          walk_at "r"
          have := leaf (L2 := []) rfl hd
          rw [List.append_nil] at this
          exact ⟨sszR L, by rw [sszR_snoc]; simp only [rs]; omega, L, many + 1, _, _, rfl, h2, x2, rfl, by simp only [rs] at hm; omega, hrL, this, by omega⟩
        | cb w =>
          simp only [enR]
          walk_at "r"
          have := leaf (L2 := []) rfl hd
          rw [List.append_nil] at this
          exact ⟨sszR L, by rw [sszR_snoc]; simp only [rs]; omega, L, many + 1, _, _, rfl, h2, x2, rfl, by simp only [rs] at hm; omega, hrL, this, by omega⟩
        | cl t v =>
          simp only [enR]
          simp only [rs] at hm
          walk_at "r"
          have ed : ((d : Int) + 1) = ((d + 1 : Nat) : Int) := by omega
          rw [ed]
          have zt := rs_pos t
          have zv := rs_pos v
          refine ⟨⟨_, h2⟩, bm_app h2 (of_eq_true (sz_lt (by rw [List.length_map]; omega))) ?_⟩
          walk_at "r"
          rw [ed]
          refine ⟨⟨_, Sto.upd_same⟩, bm_app Sto.upd_same (of_eq_true (sz_lt (by rw [List.length_append, List.length_map]; simp only [List.length_cons, List.length_nil]; omega))) ?_⟩
          walk_at "s"
          simp only [rg, rp, Bool.and_eq_true] at hrr
          refine ⟨sszR (L ++ [(t, d + 1)] ++ [(v, d + 1)]), by rw [sszR_snoc, sszR_snoc, sszR_snoc]; simp only [rs]; omega, L ++ [(t, d + 1)] ++ [(v, d + 1)], many + 1, _, _, rfl, by rw [Sto.upd_same]; simp, (x2.trans Sxb.put).trans Sxb.put, rfl, by rw [sszR_snoc, sszR_snoc]; dsimp only; omega, fun x hx => ?_, ?_, by omega⟩
          · simp only [List.mem_append, List.mem_singleton] at hx
            rcases hx with (hx | rfl) | rfl
            · exact hrL x hx
            · exact ⟨hrr.1.1, by dsimp only; omega⟩
            · exact ⟨hrr.1.2, by dsimp only; omega⟩
          · rcases hd with ⟨r, hr, er⟩ | h
            · rcases List.mem_append.mp hr with hr | hr
              · exact .inl ⟨r, by simp [hr], er⟩
              · rw [List.mem_singleton.mp hr] at er
                simp only [rp] at er
                by_cases hx : rp v ≤ rp t
                · exact .inl ⟨(t, d + 1), by simp, by dsimp only; omega⟩
                · exact .inl ⟨(v, d + 1), by simp, by dsimp only; omega⟩
            · exact .inr h
/-! ### _law_sizeR -/
def szsR (rows : List Rw) : Nat := (rows.map rs).sum
theorem szsR_snocR (L : List Rw) (r : Rw) : szsR (L ++ [r]) = szsR L + rs r := by simp [szsR]
theorem len_le_szsR : ∀ L : List Rw, L.length ≤ szsR L
  | [] => Nat.le_refl _
  | r :: L => by
    have h1 := rs_pos r
    have h2 := len_le_szsR L
    simp only [szsR, List.map_cons, List.sum_cons, List.length_cons] at *
    omega
theorem w_sizeR {u : Rw} {n : Nat} {S : Sto} {Q : QD} {E : QX} (hg : rg u = true) (hb : rs u ≤ 900000) (q : ∀ S', Sx S S' → Q (.int (rs u : Int)) S') : (lvl prg (n + 1)).fn 30 [enR u] S Q E := by
  refine ⟨rfl, ?_⟩
  unfold ir30
  walk_at "s"; walk_at "e"
  intro p hp
  walk_at "s"; walk_at "e"
  walk_at "s"
  refine ⟨fun m σ S1 => ∃ (p : Addr) (rows : List Rw) (many : Nat) (o3 o4 : Option D), σ = [some (enR u), some (.ref p), some (.int (many : Int)), o3, o4] ∧ S1 p = some (.lst (rows.map enR)) ∧ S p = none ∧ Sx S S1 ∧ m = szsR rows ∧ many + szsR rows = rs u ∧ ∀ r ∈ rows, rg r = true,
    ⟨rs u, p, [u], 0, none, none, rfl, Sto.upd_same, hp, Sx.new hp, by simp [szsR], by simp [szsR], fun r hr => (by rw [List.mem_singleton.mp hr]; exact hg)⟩, ?_⟩
  rintro m σ S1 ⟨p, rows, many, o3, o4, rfl, h1, hp, x1, rfl, hm, hr⟩
  walk_at "e"
  simp only [h1, List.length_map]
  rcases snoc_cases rows with rfl | ⟨L, t, rfl⟩
  · walk_at "r"
    simp only [szsR, List.map_nil, List.sum_nil, Nat.add_zero] at hm
    have := q S1 x1
    rw [← hm] at this
    exact this
  · rw [decide_eq_true (show (0 : Int) < (((L ++ [t]).length : Nat) : Int) by rw [List.length_append]; simp only [List.length_cons, List.length_nil]; omega)]
    rw [szsR_snocR] at hm
    have ht := hr t (by simp)
    have hL : ∀ r ∈ L, rg r = true := fun r h => hr r (by simp [h])
    have hz := rs_pos t
    have hl := len_le_szsR L
    rw [List.map_append, List.map_cons, List.map_nil] at h1
    walk_at "e"
    walk_at "s"; walk_at "e"
    refine ⟨⟨_, h1⟩, bm_pop h1 ?_⟩
    obtain ⟨S2, hS2⟩ : ∃ S2, S2 = S1.upd p (.lst (L.map enR)) := ⟨_, rfl⟩
    have h2 : S2 p = some (.lst (L.map enR)) := by rw [hS2, Sto.upd_same]
    have x2 : Sx S S2 := by rw [hS2]; exact (x1.b.trans Sxb.put).of_new hp
    rw [← hS2]
    walk_at "s"; walk_at "e"
    have em : ((many : Int) + 1) = ((many + 1 : Nat) : Int) := by omega
    rw [em]
    have fs : (L.map enR).length ≤ 900000 := by rw [List.length_map]; omega
    walk_at "s"
    cases t with
    | vr j =>
      simp only [enR]
      walk_at "e"
      refine inW_tup rfl rfl (by decide) ?_
      walk_at "r"
      exact ⟨szsR L, by rw [szsR_snocR]; simp only [rs]; omega, p, L, many + 1, _, _, rfl, h2, hp, x2, rfl, by simp only [rs] at hm; omega, hL⟩
    | nm w =>
      simp only [enR]
      walk_at "e"
      refine inW_tup rfl rfl (by decide) ?_
      walk_at "r"
      exact ⟨szsR L, by rw [szsR_snocR]; simp only [rs]; omega, p, L, many + 1, _, _, rfl, h2, hp, x2, rfl, by simp only [rs] at hm; omega, hL⟩
    | cb w =>
      simp only [enR]
      walk_at "e"
      refine inW_tup rfl rfl (by decide) ?_
      walk_at "r"
      exact ⟨szsR L, by rw [szsR_snocR]; simp only [rs]; omega, p, L, many + 1, _, _, rfl, h2, hp, x2, rfl, by simp only [rs] at hm; omega, hL⟩
    | cl t v =>
      simp only [enR]
      walk_at "e"
      refine inW_tup rfl rfl (by decide) ?_
      walk_at "r"
      intro p2 hp2
      have n2 : p ≠ p2 := new_ne h2 hp2
      refine ⟨[], Sto.upd_same, ?_⟩
      walk_at "e"
      refine ⟨of_eq_true (sz_lt (by decide)), [enR t], Sto.upd_same, of_eq_true (sz_lt (by simp only [List.length_cons, List.length_nil]; omega)), ?_⟩
      refine binW_ll (xs := L.map enR) (ys := [enR t, enR v]) (by rw [Sto.upd_ne n2, Sto.upd_ne n2, Sto.upd_ne n2]; exact h2) Sto.upd_same (by simp only [List.length_cons, List.length_nil]; omega) fun p3 hp3 => ?_
      walk_at "r"
      simp only [rg, Bool.and_eq_true] at ht
      have x3 : Sx S2 (((S2.upd p2 (.lst [])).upd p2 (.lst [enR t])).upd p2 (.lst [enR t, enR v])) := ((Sxb.put.trans Sxb.put).trans Sxb.put).of_new hp2
      exact ⟨szsR (L ++ [t] ++ [v]), by rw [szsR_snocR, szsR_snocR, szsR_snocR]; simp only [rs]; omega, p3, L ++ [t] ++ [v], many + 1, _, _, rfl, by rw [Sto.upd_same]; simp, (x2.trans x3).none_at hp3, (x2.trans x3).trans (Sx.new hp3), rfl, by rw [szsR_snocR, szsR_snocR]; simp only [rs] at hm; omega, fun r h => by
        simp only [List.mem_append, List.mem_singleton] at h
        rcases h with (h | rfl) | rfl
        · exact hL r h
        · exact ht.1
        · exact ht.2⟩
end K42
end Mini
end L2
namespace L2
namespace Mini
namespace K42
open PySem PySem.Spec PyProof.Rows
local macro_rules | `(tactic| walk_at "s") => `(tactic| first | with_reducible refine st_set ?_ | with_reducible refine st_ife ?_ | with_reducible refine st_ret ?_ | with_reducible refine st_ex ?_ | with_reducible refine st_unp ?_ | with_reducible refine st_unpl ?_ | with_reducible refine st_unpa ?_ | with_reducible refine st_aug ?_ | with_reducible refine st_for ?_ | with_reducible refine st_whl ?_ | with_reducible refine st_nil ?_ | with_reducible refine st_setix ?_ | with_reducible refine st_raise ?_ | with_reducible refine st_try ?_ | with_reducible refine st_setat ?_ | with_reducible refine st_augat ?_ | with_reducible refine st_pass ?_ | with_reducible refine st_brk ?_ | with_reducible refine st_cnt ?_)
local macro_rules | `(tactic| walk_at "e") => `(tactic| try simp only [fget, fput, eq_self, Nat.reduceEqDiff, and_true, Int.reduceBEq, wpC, goW, List.map_cons, List.map_nil, deq, deqs, List.any_cons, List.any_nil, slW, cut_1, Int.cast_ofNat_Int, Int.natCast_zero, Int.natCast_one, Int.reduceLE, Int.reduceLT, Int.reduceNeg, Int.reduceAdd, Int.reduceSub, decide_true, decide_false, inW_chr, List.contains_cons, List.contains_nil, Bool.or_true, Bool.true_or, Bool.or_false, Bool.false_or, gd, gds, List.all_cons, List.all_nil, Nat.reduceLT, List.zip_cons_cons, List.zip_nil_left, List.foldl_cons, List.foldl_nil, wpT, wpE, wpEs, wpO, wpI, env0, Env.get, List.map, List.length, List.replicate, List.getElem?_cons_zero, List.getElem?_cons_succ, List.nil_append, List.cons_append, List.append_nil, tru, isiW, cmpW, List.set, Nat.reduceSub, Nat.reduceAdd, Bool.not_true, Bool.not_false, Bool.false_eq_true, if_true, if_false, reduceIte, ixW, biW, bmTy, augW, tgW, newW, wpPs, dmerge, sqW_t, sqW_s, binW_ai, binW_si, binW_at, binW_as, binW_mi, binW_di, binW_mo, atI_0, atI_1, atI_2, ex_some, eqW_str, eqW_int, sz0, sz1, sz2, sz3, sz4, sz5, sz6, sz7, sz8, sz9, sz10, sz11, sz12, sz13, sz14, true_and, Bool.false_xor, Bool.true_xor, lb_cc, lb_nc, lb_cn, lb_nn, Nat.reduceBEq, Bool.and_true, Bool.true_and, Bool.false_and, Bool.and_false, beq_self_eq_true, binW_ms])
local macro_rules | `(tactic| walk_at "r") => `(tactic| ((try walk_at "s"); walk_at "e"; repeat (walk_at "s"; walk_at "e")))
local macro_rules | `(tactic| walk_at "w") => `(tactic| simp only [wpSs, wpS, wpT, wpE, wpEs, wpO, wpI, env0, Env.get, List.map, List.length, List.replicate, List.getElem?_cons_zero, List.getElem?_cons_succ, List.nil_append, List.cons_append, List.append_nil, tru, isiW, cmpW, List.set, Nat.reduceSub, Nat.reduceAdd, Bool.not_true, Bool.not_false, Bool.false_eq_true, if_true, if_false, reduceIte, ixW, biW, bmTy, sqW_t, sqW_s, binW_ai, binW_si, binW_at, binW_as, binW_mi, binW_di, binW_mo, atI_0, atI_1, atI_2, ex_some, eqW_str, eqW_int, sz0, sz1, sz2, sz3, sz4, sz5, sz6, sz7, sz11, true_and, Bool.false_xor, Bool.true_xor, lb_cc, lb_nc, lb_cn, lb_nn, Nat.reduceBEq, Bool.and_true, Bool.true_and, Bool.false_and, Bool.and_false, beq_self_eq_true])
local macro_rules | `(tactic| walk_at "q") => `(tactic| refine eqW_of rfl rfl (Nat.le_of_ble_eq_true rfl) ?_)
local macro_rules | `(tactic| walk_at "g") => `(tactic| (walk_at "r"; repeat (walk_at "q"; walk_at "r")))
/-! ### the program's rows -/
theorem w_callR {a b : D} {n : Nat} {S : Sto} {Q : QD} {E : QX} (q : Q (.tup [sCl, a, b]) S) : (lvl prg (n + 1)).fn 9 [a, b] S Q E := by
  refine ⟨rfl, ?_⟩
  unfold ir9
  walk_at "r"
  exact q
theorem w_atR {i : Int} {n : Nat} {S : Sto} {Q : QD} {E : QX} (q : Q (.tup [sAt, .int i]) S) : (lvl prg (n + 1)).fn 10 [.int i] S Q E := by
  refine ⟨rfl, ?_⟩
  unfold ir10
  walk_at "r"
  exact q
theorem deq_z0 (t : Rw) : deq (enR t) (.tup [sAt, .int 0]) = z0 t := by
  cases t with
  | vr n => cases n <;> simp [enR, deq, deqs, z0] <;> omega
  | nm _ => simp [enR, deq, deqs, z0]
  | cb _ => simp [enR, deq, deqs, z0]
  | cl _ _ => simp [enR, deq, deqs, z0]
theorem eq_z0 {t : Rw} {S : Sto} {neg : Bool} {Q : QD} (hg : rg t = true) (q : Q (.bl (neg ^^ z0 t)) S) : eqW (enR t) (.tup [sAt, .int 0]) neg S Q :=
  eqW_of (enR_gd t hg) rfl (Nat.le_trans (Nat.min_le_right _ _) (by simp [dd, dds])) (by rw [deq_z0]; exact q)
theorem w_lo : ∀ (r : Rw) {n : Nat} {S : Sto} {Q : QD} {E : QX}, rp r + 1 ≤ n → h0 r = false → Q (enR (lo r)) S → (lvl prg n).fn 14 [enR r] S Q E
  | .vr 0, n, S, Q, E, _, h, _ => by simp [h0, z0] at h
  | .vr (j + 1), n, S, Q, E, hn, h, q => by
    obtain ⟨n, rfl⟩ : ∃ k, n = k + 2 := ⟨n - 2, by simp only [rp] at hn; omega⟩
    refine ⟨rfl, ?_⟩
    unfold ir14
    simp only [enR, lo] at q ⊢
    walk_at "r"
    refine w_atR ?_
    rw [show (((j + 1 : Nat) : Int) - 1) = ((j + 1 - 1 : Nat) : Int) by omega]
    exact q
  | .nm w, n, S, Q, E, hn, h, q => by
    obtain ⟨n, rfl⟩ : ∃ k, n = k + 2 := ⟨n - 2, by simp only [rp] at hn; omega⟩
    refine ⟨rfl, ?_⟩
    unfold ir14
    simp only [enR, lo] at q ⊢
    walk_at "r"
    exact q
  | .cb w, n, S, Q, E, hn, h, q => by
    obtain ⟨n, rfl⟩ : ∃ k, n = k + 2 := ⟨n - 2, by simp only [rp] at hn; omega⟩
    refine ⟨rfl, ?_⟩
    unfold ir14
    simp only [enR, lo] at q ⊢
    walk_at "r"
    exact q
  | .cl a b, n, S, Q, E, hn, h, q => by
    have pa := rp_pos a
    obtain ⟨n, rfl⟩ : ∃ k, n = k + 2 := ⟨n - 2, by simp only [rp] at hn; omega⟩
    simp only [rp] at hn
    simp only [h0, Bool.or_eq_false_iff] at h
    refine ⟨rfl, ?_⟩
    unfold ir14
    simp only [enR, lo] at q ⊢
    walk_at "r"
    refine w_lo a (by omega) h.1 ?_
    refine w_lo b (by omega) h.2 ?_
    exact w_callR q
theorem any_snoc {L : List Rw} {r : Rw} : (L ++ [r]).any h0 = (L.any h0 || h0 r) := by simp
theorem gds_enR : ∀ rows : List Rw, (∀ r ∈ rows, rg r = true) → gds (rows.map enR) = true
  | [], _ => rfl
  | r :: rows, h => by
    have h1 := enR_gd r (h r List.mem_cons_self)
    have h2 := gds_enR rows fun x hx => h x (List.mem_cons_of_mem _ hx)
    simp [gds, h1, h2]
theorem w_hf {u : Rw} {n : Nat} {S : Sto} {Q : QD} {E : QX} (hg : rg u = true) (hz : rs u ≤ 900000) (q : ∀ S', Sx S S' → Q (.bl (h0 u)) S') : (lvl prg (n + 1)).fn 13 [enR u] S Q E := by
  refine ⟨rfl, ?_⟩
  unfold ir13
  walk_at "s"; walk_at "e"
  intro p hp
  walk_at "s"
  refine ⟨fun m σ S1 => ∃ (rows : List Rw) (o2 : Option D), σ = [some (enR u), some (.ref p), o2] ∧ S1 p = some (.lst (rows.map enR)) ∧ Sxb p S S1 ∧ m = szsR rows ∧ szsR rows ≤ rs u ∧ (∀ r ∈ rows, rg r = true) ∧ h0 u = rows.any h0,
    ⟨_, [u], none, rfl, Sto.upd_same, Sxb.put, rfl, by simp [szsR], fun r hr => (by rw [List.mem_singleton.mp hr]; exact hg), by simp⟩, ?_⟩
  rintro m σ S1 ⟨rows, o2, rfl, h1, x1, rfl, hm, hr, hh⟩
  walk_at "e"
  intro l hl
  have ne : p ≠ l := new_ne h1 hl
  have h1' : (S1.upd l (.lst [])) p = some (.lst (rows.map enR)) := by rw [Sto.upd_ne ne]; exact h1
  have x1' : Sxb p S (S1.upd l (.lst [])) := x1.trans (Sx.new hl).b
  refine eqW_nil (rd_lst h1') (gds_enR rows hr) rd_upd ?_
  rcases snoc_cases rows with rfl | ⟨L, r, rfl⟩
  · walk_at "r"
    rw [hh] at q
    exact q _ (x1'.of_new hp)
  · rw [List.map_append, List.map_cons, List.map_nil] at h1' ⊢
    rw [isEmpty_snocR]
    rw [szsR_snocR] at hm
    have hrr := hr r (by simp)
    have hrL : ∀ x ∈ L, rg x = true := fun x hx => hr x (by simp [hx])
    have hzz := rs_pos r
    have szl := len_le_szsR L
    walk_at "e"
    walk_at "s"; walk_at "e"
    refine ⟨⟨_, h1'⟩, bm_pop h1' ?_⟩
    obtain ⟨S2, hS2⟩ : ∃ S2, S2 = (S1.upd l (.lst [])).upd p (.lst (L.map enR)) := ⟨_, rfl⟩
    have h2 : S2 p = some (.lst (L.map enR)) := by rw [hS2, Sto.upd_same]
    have x2 : Sxb p S S2 := by rw [hS2]; exact x1'.trans Sxb.put
    rw [← hS2]
    walk_at "s"; walk_at "e"
    refine eq_z0 hrr ?_
    rw [any_snoc] at hh
    cases hz0 : z0 r with
    | true =>
      walk_at "r"
      have : h0 u = true := by rw [hh, z0_h0 hz0, Bool.or_true]
      rw [this] at q
      exact q S2 (x2.of_new hp)
    | false =>
      walk_at "e"
      walk_at "s"
      cases r with
      | vr j =>
        simp only [enR]
        walk_at "r"
        exact ⟨szsR L, by rw [szsR_snocR]; simp only [rs]; omega, L, _, rfl, h2, x2, rfl, by omega, hrL, by rw [hh, show h0 (.vr j) = false from hz0, Bool.or_false]⟩
      | nm j =>
        simp only [enR]
        walk_at "r"
        exact ⟨szsR L, by rw [szsR_snocR]; simp only [rs]; omega, L, _, rfl, h2, x2, rfl, by omega, hrL, by rw [hh, show h0 (.nm j) = false from rfl, Bool.or_false]⟩
      | cb j =>
        simp only [enR]
        walk_at "r"
        exact ⟨szsR L, by rw [szsR_snocR]; simp only [rs]; omega, L, _, rfl, h2, x2, rfl, by omega, hrL, by rw [hh, show h0 (.cb j) = false from rfl, Bool.or_false]⟩
      | cl a b =>
        simp only [enR]
        simp only [rs] at hm
        walk_at "r"
        refine ⟨⟨_, h2⟩, ?_⟩
        unfold bmW
        simp only [h2]
        refine ⟨of_eq_true (sz_le (by simp only [List.length_map, List.length_cons, List.length_nil]; omega)), ?_⟩
        walk_at "s"
        simp only [rg, Bool.and_eq_true] at hrr
        refine ⟨szsR (L ++ [a] ++ [b]), by rw [szsR_snocR, szsR_snocR, szsR_snocR]; simp only [rs]; omega, L ++ [a] ++ [b], _, rfl, by rw [Sto.upd_same]; simp, x2.trans Sxb.put, rfl, by rw [szsR_snocR, szsR_snocR]; omega, fun x hx => ?_, by rw [hh, any_snoc, any_snoc, Bool.or_assoc]; rfl⟩
        simp only [List.mem_append, List.mem_singleton] at hx
        rcases hx with (hx | rfl) | rfl
        · exact hrL x hx
        · exact hrr.1
        · exact hrr.2
theorem w_wo : ∀ (r : Rw) {n : Nat} {S : Sto} {Q : QD} {E : QX}, rp r + 2 ≤ n → rg r = true → rs r ≤ 900000 → (∀ S', Sx S S' → Q (enR (wo r)) S') → (lvl prg n).fn 15 [enR r] S Q E := by
  intro r
  have leaf : ∀ (r : Rw) {n : Nat} {S : Sto} {Q : QD} {E : QX}, rp r = 1 → 3 ≤ n → rg r = true → rs r = 1 → (z0 r = true → wo r = .cb 0) → (z0 r = false → h0 r = false) → (∀ S', Sx S S' → Q (enR (wo r)) S') → (lvl prg n).fn 15 [enR r] S Q E := fun r n S Q E hp hn hg hz hw hh q => by
    obtain ⟨n, rfl⟩ : ∃ k, n = k + 3 := ⟨n - 3, by omega⟩
    refine ⟨rfl, ?_⟩
    unfold ir15
    walk_at "s"; walk_at "e"
    refine eq_z0 hg ?_
    cases e : z0 r with
    | true =>
      rw [hw e] at q
      walk_at "r"
      exact q S (Sx.refl S)
    | false =>
      have e0 := hh e
      rw [wo_no e0] at q
      walk_at "e"
      walk_at "s"
      walk_at "s"; walk_at "e"
      refine w_hf hg (by omega) fun S1 x1 => ?_
      rw [e0]
      walk_at "r"
      refine w_lo r (by omega) e0 ?_
      exact w_callR (q S1 x1)
  induction r with
  | vr j => intro n S Q E hn hg hz q; exact leaf _ rfl (by simpa [rp] using hn) hg rfl (fun h => match j, h with | 0, _ => rfl) (fun h => h) q
  | nm j => intro n S Q E hn hg hz q; exact leaf _ rfl (by simpa [rp] using hn) hg rfl (fun h => by cases h) (fun h => rfl) q
  | cb j => intro n S Q E hn hg hz q; exact leaf _ rfl (by simpa [rp] using hn) hg rfl (fun h => by cases h) (fun h => rfl) q
  | cl a b i1 i2 =>
    intro n S Q E hn hg hz q
    have pa := rp_pos a
    simp only [rp] at hn
    have hz' := hz
    simp only [rs] at hz
    obtain ⟨n, rfl⟩ : ∃ k, n = k + 3 := ⟨n - 3, by omega⟩
    have hg' := hg
    simp only [rg, Bool.and_eq_true] at hg
    refine ⟨rfl, ?_⟩
    unfold ir15
    walk_at "s"; walk_at "e"
    refine eq_z0 hg' ?_
    rw [show z0 (.cl a b) = false from rfl]
    walk_at "e"
    walk_at "s"
    walk_at "s"; walk_at "e"
    refine w_hf hg' hz' fun S1 x1 => ?_
    rw [show h0 (.cl a b) = (h0 a || h0 b) from rfl]
    rcases wo_cases a b with g | g | g | g | g
    · rw [g.1, g.2.1]
      rw [g.2.2] at q
      walk_at "r"
      refine w_lo (.cl a b) (by simp only [rp]; omega) (by simp [h0, g.1, g.2.1]) ?_
      exact w_callR (q S1 x1)
    · rw [g.1, g.2.1]
      rw [g.2.2.2] at q
      walk_at "e"
      walk_at "s"
      simp only [enR]
      walk_at "s"; walk_at "e"
      walk_at "s"; walk_at "e"
      refine w_hf hg.1 (by omega) fun S2 x2 => ?_
      rw [g.1]
      walk_at "e"
      walk_at "s"; walk_at "e"
      refine eq_z0 hg.2 ?_
      rw [g.2.2.1]
      walk_at "r"
      exact w_lo a (by omega) g.1 (q S2 (x1.trans x2))
    · rw [g.1, g.2.1]
      rw [g.2.2.2] at q
      walk_at "e"
      walk_at "s"
      simp only [enR]
      walk_at "s"; walk_at "e"
      walk_at "s"; walk_at "e"
      refine w_hf hg.1 (by omega) fun S2 x2 => ?_
      rw [g.1]
      walk_at "e"
      walk_at "s"; walk_at "e"
      refine eq_z0 hg.2 ?_
      rw [g.2.2.1]
      walk_at "r"
      refine w_lo a (by omega) g.1 ?_
      refine w_callR ?_
      refine i2 (by omega) hg.2 (by omega) fun S3 x3 => ?_
      exact w_callR (q S3 ((x1.trans x2).trans x3))
    · rw [g.1, g.2.1]
      rw [g.2.2] at q
      walk_at "e"
      walk_at "s"
      simp only [enR]
      walk_at "s"; walk_at "e"
      walk_at "s"; walk_at "e"
      refine w_hf hg.1 (by omega) fun S2 x2 => ?_
      rw [g.1]
      walk_at "e"
      walk_at "s"
      walk_at "s"; walk_at "e"
      refine w_hf hg.2 (by omega) fun S3 x3 => ?_
      rw [g.2.1]
      walk_at "r"
      refine i1 (by omega) hg.1 (by omega) fun S4 x4 => ?_
      refine w_callR ?_
      refine w_lo b (by omega) g.2.1 ?_
      exact w_callR (q S4 (((x1.trans x2).trans x3).trans x4))
    · rw [g.1, g.2.1]
      rw [g.2.2] at q
      walk_at "e"
      walk_at "s"
      simp only [enR]
      walk_at "s"; walk_at "e"
      walk_at "s"; walk_at "e"
      refine w_hf hg.1 (by omega) fun S2 x2 => ?_
      rw [g.1]
      walk_at "e"
      walk_at "s"
      walk_at "s"; walk_at "e"
      refine w_hf hg.2 (by omega) fun S3 x3 => ?_
      rw [g.2.1]
      walk_at "r"
      refine i1 (by omega) hg.1 (by omega) fun S4 x4 => ?_
      refine w_callR ?_
      refine i2 (by omega) hg.2 (by omega) fun S5 x5 => ?_
      exact w_callR (q S5 ((((x1.trans x2).trans x3).trans x4).trans x5))
theorem w_rop : ∀ (t : Tm) {n : Nat} {S : Sto} {Q : QD} {E : QX}, dp t + 300 ≤ n → good t = true → okd t → (∀ S', Sx S S' → rs (ro t) ≤ 4000 → Q (enR (ro t)) S') → (∀ S', Sx S S' → 4000 < rs (ro t) + 2 * fi t → E ⟨4, []⟩ S') → (lvl prg n).fn 16 [enc t] S Q E := by
  intro t
  induction t with
  | av j =>
    intro n S Q E hn hg ho q e
    obtain ⟨n, rfl⟩ : ∃ k, n = k + 3 := ⟨n - 3, by omega⟩
    refine ⟨rfl, ?_⟩
    unfold ir16
    simp only [ro, enR] at q
    simp only [enc]
    walk_at "r"
    exact q S (Sx.refl S) (by simp [rs])
  | nm j =>
    intro n S Q E hn hg ho q e
    obtain ⟨n, rfl⟩ : ∃ k, n = k + 3 := ⟨n - 3, by omega⟩
    refine ⟨rfl, ?_⟩
    unfold ir16
    simp only [ro, enR] at q
    simp only [enc]
    walk_at "r"
    exact q S (Sx.refl S) (by simp [rs])
  | fn t ih =>
    intro n S Q E hn hg ho q e
    simp only [dp] at hn
    obtain ⟨n, rfl⟩ : ∃ k, n = k + 3 := ⟨n - 3, by omega⟩
    obtain ⟨o1, o2, o3⟩ := ho
    obtain ⟨o4, o5⟩ := okd_rp o3
    have hw := wo_rs (ro t)
    refine ⟨rfl, ?_⟩
    unfold ir16
    simp only [enc]
    walk_at "r"
    refine ih (by omega) hg o3 (fun S1 x1 _ => ?_) fun S1 x1 h => e S1 x1 (by simp only [ro, fi]; omega)
    have gr : rg (ro t) = true := by rw [ro_rg]; exact hg
    refine w_wo (ro t) (by omega) gr (by omega) fun S2 x2 => ?_
    refine w_madeR (u := ro (.fn t)) (by rw [ro_rg]; exact hg) (by omega) (fun S3 x3 hz _ => q S3 ((x1.trans x2).trans x3) hz) fun S3 x3 h => e S3 ((x1.trans x2).trans x3) (by omega)
  | cl t u i1 i2 =>
    intro n S Q E hn hg ho q e
    simp only [dp] at hn
    obtain ⟨n, rfl⟩ : ∃ k, n = k + 3 := ⟨n - 3, by omega⟩
    obtain ⟨o1, o2, o3, o4⟩ := ho
    have hg' := hg
    simp only [good, Bool.and_eq_true] at hg
    refine ⟨rfl, ?_⟩
    unfold ir16
    simp only [enc]
    walk_at "r"
    refine i1 (by omega) hg.1 o3 (fun S1 x1 _ => ?_) fun S1 x1 h => e S1 x1 (by simp only [ro, fi, rs]; omega)
    refine i2 (by omega) hg.2 o4 (fun S2 x2 _ => ?_) fun S2 x2 h => e S2 (x1.trans x2) (by simp only [ro, fi, rs]; omega)
    refine w_callR ?_
    refine w_madeR (u := ro (.cl t u)) (by rw [ro_rg]; exact hg') (by omega) (fun S3 x3 hz _ => q S3 ((x1.trans x2).trans x3) hz) fun S3 x3 h => e S3 ((x1.trans x2).trans x3) (by omega)
end K42
end Mini
end L2
namespace L2
namespace Mini
namespace K42
open PySem PySem.Spec PyProof.Rows
local macro_rules | `(tactic| walk_at "s") => `(tactic| first | with_reducible refine st_set ?_ | with_reducible refine st_ife ?_ | with_reducible refine st_ret ?_ | with_reducible refine st_ex ?_ | with_reducible refine st_unp ?_ | with_reducible refine st_unpl ?_ | with_reducible refine st_unpa ?_ | with_reducible refine st_aug ?_ | with_reducible refine st_for ?_ | with_reducible refine st_whl ?_ | with_reducible refine st_nil ?_ | with_reducible refine st_setix ?_ | with_reducible refine st_raise ?_ | with_reducible refine st_try ?_ | with_reducible refine st_setat ?_ | with_reducible refine st_augat ?_ | with_reducible refine st_pass ?_ | with_reducible refine st_brk ?_ | with_reducible refine st_cnt ?_)
local macro_rules | `(tactic| walk_at "e") => `(tactic| try simp only [fget, fput, eq_self, Nat.reduceEqDiff, and_true, Int.reduceBEq, wpC, goW, List.map_cons, List.map_nil, deq, deqs, List.any_cons, List.any_nil, slW, cut_1, Int.cast_ofNat_Int, Int.natCast_zero, Int.natCast_one, Int.reduceLE, Int.reduceLT, Int.reduceNeg, Int.reduceAdd, Int.reduceSub, decide_true, decide_false, inW_chr, List.contains_cons, List.contains_nil, Bool.or_true, Bool.true_or, Bool.or_false, Bool.false_or, gd, gds, List.all_cons, List.all_nil, Nat.reduceLT, List.zip_cons_cons, List.zip_nil_left, List.foldl_cons, List.foldl_nil, wpT, wpE, wpEs, wpO, wpI, env0, Env.get, List.map, List.length, List.replicate, List.getElem?_cons_zero, List.getElem?_cons_succ, List.nil_append, List.cons_append, List.append_nil, tru, isiW, cmpW, List.set, Nat.reduceSub, Nat.reduceAdd, Bool.not_true, Bool.not_false, Bool.false_eq_true, if_true, if_false, reduceIte, ixW, biW, bmTy, augW, tgW, newW, wpPs, dmerge, sqW_t, sqW_s, binW_ai, binW_si, binW_at, binW_as, binW_mi, binW_di, binW_mo, atI_0, atI_1, atI_2, ex_some, eqW_str, eqW_int, sz0, sz1, sz2, sz3, sz4, sz5, sz6, sz7, sz8, sz9, sz10, sz11, sz12, sz13, sz14, true_and, Bool.false_xor, Bool.true_xor, lb_cc, lb_nc, lb_cn, lb_nn, Nat.reduceBEq, Bool.and_true, Bool.true_and, Bool.false_and, Bool.and_false, beq_self_eq_true, binW_ms])
local macro_rules | `(tactic| walk_at "r") => `(tactic| ((try walk_at "s"); walk_at "e"; repeat (walk_at "s"; walk_at "e")))
local macro_rules | `(tactic| walk_at "w") => `(tactic| simp only [wpSs, wpS, wpT, wpE, wpEs, wpO, wpI, env0, Env.get, List.map, List.length, List.replicate, List.getElem?_cons_zero, List.getElem?_cons_succ, List.nil_append, List.cons_append, List.append_nil, tru, isiW, cmpW, List.set, Nat.reduceSub, Nat.reduceAdd, Bool.not_true, Bool.not_false, Bool.false_eq_true, if_true, if_false, reduceIte, ixW, biW, bmTy, sqW_t, sqW_s, binW_ai, binW_si, binW_at, binW_as, binW_mi, binW_di, binW_mo, atI_0, atI_1, atI_2, ex_some, eqW_str, eqW_int, sz0, sz1, sz2, sz3, sz4, sz5, sz6, sz7, sz11, true_and, Bool.false_xor, Bool.true_xor, lb_cc, lb_nc, lb_cn, lb_nn, Nat.reduceBEq, Bool.and_true, Bool.true_and, Bool.false_and, Bool.and_false, beq_self_eq_true])
local macro_rules | `(tactic| walk_at "q") => `(tactic| refine eqW_of rfl rfl (Nat.le_of_ble_eq_true rfl) ?_)
local macro_rules | `(tactic| walk_at "g") => `(tactic| (walk_at "r"; repeat (walk_at "q"; walk_at "r")))
def rc : Rw → Bool
  | .vr _ => false
  | .nm w => nameB w
  | .cb _ => true
  | .cl a b => rc a && rc b
theorem rc_rg : ∀ {r}, rc r = true → rg r = true
  | .vr _, _ => rfl
  | .nm _, h => h
  | .cb _, _ => rfl
  | .cl a b, h => by
    simp only [rc, Bool.and_eq_true] at h
    simp only [rg, rc_rg h.1, rc_rg h.2, Bool.and_true]
theorem rc_of : ∀ {r}, rg r = true → cR 0 r = true → rc r = true
  | .vr _, _, h => by simp [cR] at h
  | .nm _, h, _ => h
  | .cb _, _, _ => rfl
  | .cl a b, h, g => by
    simp only [rg, Bool.and_eq_true] at h
    simp only [cR, Bool.and_eq_true] at g
    simp only [rc, rc_of h.1 g.1, rc_of h.2 g.2, Bool.and_true]
def ar : Nat → Nat
  | 0 => 1
  | 1 => 2
  | _ => 3
/-! ### is_leaf, is_combinators -/
abbrev kvA : List (List Nat × D) := [([73], .int 1), ([75], .int 2), ([83], .int 3), ([66], .int 3), ([67], .int 3)]
theorem kvA_some (j : Nat) : kvA.lookup (lt j) = some (.int (ar j : Int)) := by
  rcases j with _ | _ | _ | _ | j <;> rfl
theorem w_leaf_av {j n : Nat} {S : Sto} {Q : QD} {E : QX} (q : Q (.bl true) S) : (lvl prg (n + 2)).fn 6 [enR (.cb j)] S Q E := by
  refine ⟨rfl, ?_⟩
  unfold ir6
  walk_at "s"; walk_at "e"
  refine w_form (enR_gd (.cb j) rfl) ?_
  walk_at "s"; walk_at "e"
  refine eqW_of rfl rfl (by decide) ?_
  walk_at "e"
  walk_at "s"
  simp only [enR]
  walk_at "e"
  rw [kvA_some]
  exact q
theorem w_leaf_nm {w : List Nat} {n : Nat} {S : Sto} {Q : QD} {E : QX} (hw : nameB w = true) (q : ∀ S', Sx S S' → Q (.bl true) S') : (lvl prg (n + 2)).fn 6 [enR (.nm w)] S Q E := by
  refine ⟨rfl, ?_⟩
  unfold ir6
  walk_at "s"; walk_at "e"
  refine w_form (enR_gd (.nm w) (by simpa [rg] using hw)) ?_
  walk_at "s"; walk_at "e"
  refine eqW_of rfl rfl (by decide) ?_
  walk_at "e"
  walk_at "s"
  walk_at "s"; walk_at "e"
  refine eqW_of rfl rfl (by decide) ?_
  walk_at "e"
  simp only [enR]
  walk_at "e"
  refine w_name (n := n) (nameB_lt hw) (nameB_len hw) fun S' x => ?_
  rw [hw]
  exact q S' x
def fmR : Rw → D
  | .cb _ => .tup [sCm, .int 2]
  | .nm _ => .tup [sNm, .int 2]
  | .vr _ => .tup [sAt, .int 2]
  | .cl _ _ => .tup [sCl, .int 3]
theorem w_form' {t : Rw} {n : Nat} {S : Sto} {Q : QD} {E : QX} (hg : rg t = true) (q : Q (fmR t) S) : (lvl prg (n + 1)).fn 2 [enR t] S Q E := by
  have h := enR_gd t hg
  cases t with
  | cb j => exact w_form h q
  | nm j => exact w_form h q
  | vr j => exact w_form h q
  | cl j k => exact w_form h q
theorem w_isR {u : Rw} {n : Nat} {S : Sto} {Q : QD} {E : QX} (hg : rc u = true) (hz : rs u ≤ 4000) (hd : rp u ≤ 300) (q : ∀ S', Sx S S' → Q (.bl true) S') : (lvl prg (n + 3)).fn 7 [enR u] S Q E := by
  refine ⟨rfl, ?_⟩
  unfold ir7
  walk_at "s"; walk_at "e"
  intro p hp
  walk_at "s"; walk_at "e"
  walk_at "s"
  refine ⟨fun m σ S1 => ∃ (rows : List (Rw × Nat)) (many : Nat) (o3 o4 : Option D), σ = [some (enR u), some (.ref p), some (.int (many : Int)), o3, o4] ∧ S1 p = some (.lst (rows.map rowDR)) ∧ Sxb p S S1 ∧ m = sszR rows ∧ many + sszR rows = rs u ∧ (∀ r ∈ rows, rc r.1 = true ∧ r.2 + rp r.1 ≤ 301),
    ⟨rs u, [(u, 1)], 0, none, none, rfl, Sto.upd_same, Sxb.put, by simp [sszR], by simp [sszR], fun r hr => (by rw [List.mem_singleton.mp hr]; exact ⟨hg, by dsimp only; omega⟩)⟩, ?_⟩
  rintro m σ S1 ⟨rows, many, o3, o4, rfl, h1, x1, rfl, hm, hr⟩
  walk_at "e"
  intro l hl
  have ne : p ≠ l := new_ne h1 hl
  have h1' : (S1.upd l (.lst [])) p = some (.lst (rows.map rowDR)) := by rw [Sto.upd_ne ne]; exact h1
  have x1' : Sxb p S (S1.upd l (.lst [])) := x1.trans (Sx.new hl).b
  refine eqW_nil (rd_lst h1') (gds_rowsR rows fun r h => rc_rg (hr r h).1) rd_upd ?_
  rcases snoc_cases rows with rfl | ⟨L, r, rfl⟩
  · walk_at "r"
    exact q _ (x1'.of_new hp)
  · rw [List.map_append, List.map_cons, List.map_nil] at h1' ⊢
    rw [isEmpty_snocR]
    rw [sszR_snoc] at hm
    have hrr := hr r (by simp)
    have hrL : ∀ x ∈ L, rc x.1 = true ∧ x.2 + rp x.1 ≤ 301 := fun x hx => hr x (by simp [hx])
    have hzz := rs_pos r.1
    have hdd := rp_pos r.1
    walk_at "e"
    walk_at "s"; walk_at "e"
    refine ⟨⟨_, h1'⟩, bm_pop h1' ?_⟩
    walk_at "r"
    obtain ⟨S2, hS2⟩ : ∃ S2, S2 = (S1.upd l (.lst [])).upd p (.lst (L.map rowDR)) := ⟨_, rfl⟩
    have h2 : S2 p = some (.lst (L.map rowDR)) := by rw [hS2, Sto.upd_same]
    have x2 : Sxb p S S2 := by rw [hS2]; exact x1'.trans Sxb.put
    rw [← hS2]
    have em : ((many : Int) + 1) = ((many + 1 : Nat) : Int) := by omega
    rw [em]
    obtain ⟨t, d⟩ := r
    dsimp only at hrr hzz hdd hm ⊢
    rw [decide_eq_false (show ¬ ((4000 : Int) < ((many + 1 : Nat) : Int)) by omega)]
    walk_at "e"
    rw [decide_eq_false (show ¬ ((300 : Int) < (d : Int)) by omega)]
    walk_at "e"
    walk_at "s"
    walk_at "s"; walk_at "e"
    refine w_form' (rc_rg hrr.1) ?_
    have szl := len_le_sszR L
    cases t with
    | cb j =>
      simp only [fmR]
      refine eqW_of rfl rfl (by decide) ?_
      walk_at "e"
      walk_at "s"; walk_at "e"
      refine w_leaf_av ?_
      walk_at "e"
      walk_at "s"
      exact ⟨sszR L, by rw [sszR_snoc]; simp only [rs]; omega, L, many + 1, _, _, rfl, h2, x2, rfl, by simp only [rs] at hm; omega, hrL⟩
    | nm w =>
      simp only [fmR]
      refine eqW_of rfl rfl (by decide) ?_
      walk_at "e"
      walk_at "s"; walk_at "e"
      refine w_leaf_nm hrr.1 fun S3 x3 => ?_
      walk_at "e"
      walk_at "s"
      exact ⟨sszR L, by rw [sszR_snoc]; simp only [rs]; omega, L, many + 1, _, _, rfl, x3 _ _ h2, x2.trans x3.b, rfl, by simp only [rs] at hm; omega, hrL⟩
    | vr t => exact absurd hrr.1 (by simp [rc])
    | cl t v =>
      simp only [fmR]
      refine eqW_of rfl rfl (by decide) ?_
      walk_at "e"
      simp only [enR]
      simp only [rs] at hm
      walk_at "r"
      have ed : ((d : Int) + 1) = ((d + 1 : Nat) : Int) := by omega
      rw [ed]
      have zt := rs_pos t
      have zv := rs_pos v
      refine ⟨⟨_, h2⟩, bm_app h2 (of_eq_true (sz_lt (by rw [List.length_map]; omega))) ?_⟩
      walk_at "r"
      rw [ed]
      refine ⟨⟨_, Sto.upd_same⟩, bm_app Sto.upd_same (of_eq_true (sz_lt (by rw [List.length_append, List.length_map]; simp only [List.length_cons, List.length_nil]; omega))) ?_⟩
      walk_at "s"
      simp only [rc, rp, Bool.and_eq_true] at hrr
      refine ⟨sszR (L ++ [(t, d + 1)] ++ [(v, d + 1)]), by rw [sszR_snoc, sszR_snoc, sszR_snoc]; simp only [rs]; omega, L ++ [(t, d + 1)] ++ [(v, d + 1)], many + 1, _, _, rfl, by rw [Sto.upd_same]; simp, (x2.trans Sxb.put).trans Sxb.put, rfl, by rw [sszR_snoc, sszR_snoc]; dsimp only; omega, fun x hx => ?_⟩
      simp only [List.mem_append, List.mem_singleton] at hx
      rcases hx with (hx | rfl) | rfl
      · exact hrL x hx
      · exact ⟨hrr.1.1, by dsimp only; omega⟩
      · exact ⟨hrr.1.2, by dsimp only; omega⟩
end K42
end Mini
end L2
namespace L2
namespace Mini
namespace K42
open PySem PySem.Spec PyProof.Rows
local macro_rules | `(tactic| walk_at "s") => `(tactic| first | with_reducible refine st_set ?_ | with_reducible refine st_ife ?_ | with_reducible refine st_ret ?_ | with_reducible refine st_ex ?_ | with_reducible refine st_unp ?_ | with_reducible refine st_unpl ?_ | with_reducible refine st_unpa ?_ | with_reducible refine st_aug ?_ | with_reducible refine st_for ?_ | with_reducible refine st_whl ?_ | with_reducible refine st_nil ?_ | with_reducible refine st_setix ?_ | with_reducible refine st_raise ?_ | with_reducible refine st_try ?_ | with_reducible refine st_setat ?_ | with_reducible refine st_augat ?_ | with_reducible refine st_pass ?_ | with_reducible refine st_brk ?_ | with_reducible refine st_cnt ?_)
local macro_rules | `(tactic| walk_at "e") => `(tactic| try simp only [fget, fput, eq_self, Nat.reduceEqDiff, and_true, Int.reduceBEq, wpC, goW, List.map_cons, List.map_nil, deq, deqs, List.any_cons, List.any_nil, slW, cut_1, Int.cast_ofNat_Int, Int.natCast_zero, Int.natCast_one, Int.reduceLE, Int.reduceLT, Int.reduceNeg, Int.reduceAdd, Int.reduceSub, decide_true, decide_false, inW_chr, List.contains_cons, List.contains_nil, Bool.or_true, Bool.true_or, Bool.or_false, Bool.false_or, gd, gds, List.all_cons, List.all_nil, Nat.reduceLT, List.zip_cons_cons, List.zip_nil_left, List.foldl_cons, List.foldl_nil, wpT, wpE, wpEs, wpO, wpI, env0, Env.get, List.map, List.length, List.replicate, List.getElem?_cons_zero, List.getElem?_cons_succ, List.nil_append, List.cons_append, List.append_nil, tru, isiW, cmpW, List.set, Nat.reduceSub, Nat.reduceAdd, Bool.not_true, Bool.not_false, Bool.false_eq_true, if_true, if_false, reduceIte, ixW, biW, bmTy, augW, tgW, newW, wpPs, dmerge, sqW_t, sqW_s, binW_ai, binW_si, binW_at, binW_as, binW_mi, binW_di, binW_mo, atI_0, atI_1, atI_2, ex_some, eqW_str, eqW_int, sz0, sz1, sz2, sz3, sz4, sz5, sz6, sz7, sz8, sz9, sz10, sz11, sz12, sz13, sz14, true_and, Bool.false_xor, Bool.true_xor, lb_cc, lb_nc, lb_cn, lb_nn, Nat.reduceBEq, Bool.and_true, Bool.true_and, Bool.false_and, Bool.and_false, beq_self_eq_true, binW_ms])
local macro_rules | `(tactic| walk_at "r") => `(tactic| ((try walk_at "s"); walk_at "e"; repeat (walk_at "s"; walk_at "e")))
local macro_rules | `(tactic| walk_at "w") => `(tactic| simp only [wpSs, wpS, wpT, wpE, wpEs, wpO, wpI, env0, Env.get, List.map, List.length, List.replicate, List.getElem?_cons_zero, List.getElem?_cons_succ, List.nil_append, List.cons_append, List.append_nil, tru, isiW, cmpW, List.set, Nat.reduceSub, Nat.reduceAdd, Bool.not_true, Bool.not_false, Bool.false_eq_true, if_true, if_false, reduceIte, ixW, biW, bmTy, sqW_t, sqW_s, binW_ai, binW_si, binW_at, binW_as, binW_mi, binW_di, binW_mo, atI_0, atI_1, atI_2, ex_some, eqW_str, eqW_int, sz0, sz1, sz2, sz3, sz4, sz5, sz6, sz7, sz11, true_and, Bool.false_xor, Bool.true_xor, lb_cc, lb_nc, lb_cn, lb_nn, Nat.reduceBEq, Bool.and_true, Bool.true_and, Bool.false_and, Bool.and_false, beq_self_eq_true])
local macro_rules | `(tactic| walk_at "q") => `(tactic| refine eqW_of rfl rfl (Nat.le_of_ble_eq_true rfl) ?_)
local macro_rules | `(tactic| walk_at "g") => `(tactic| (walk_at "r"; repeat (walk_at "q"; walk_at "r")))
def dropS : Nat → Stms → Stms
  | 0, s => s
  | k + 1, .cons _ r => dropS k r
  | _ + 1, .nil => .nil
/-! ### the law's rows -/
theorem w_fhas : ∀ (r : Rw) {n : Nat} {S : Sto} {Q : QD} {E : QX}, rp r ≤ n → Q (.bl (h0 r)) S → (lvl prg n).fn 31 [enR r, .int 0] S Q E
  | .vr j, n, S, Q, E, hn, q => by
    obtain ⟨n, rfl⟩ : ∃ k, n = k + 1 := ⟨n - 1, by simp only [rp] at hn; omega⟩
    refine ⟨rfl, ?_⟩
    unfold ir31
    simp only [enR]
    walk_at "r"
    have e : ((j : Int) == 0) = h0 (.vr j) := by cases j <;> simp [h0, z0] <;> omega
    rw [e]
    exact q
  | .nm w, n, S, Q, E, hn, q => by
    obtain ⟨n, rfl⟩ : ∃ k, n = k + 1 := ⟨n - 1, by simp only [rp] at hn; omega⟩
    refine ⟨rfl, ?_⟩
    unfold ir31
    simp only [enR]
    walk_at "r"
    exact q
  | .cb w, n, S, Q, E, hn, q => by
    obtain ⟨n, rfl⟩ : ∃ k, n = k + 1 := ⟨n - 1, by simp only [rp] at hn; omega⟩
    refine ⟨rfl, ?_⟩
    unfold ir31
    simp only [enR]
    walk_at "r"
    exact q
  | .cl a b, n, S, Q, E, hn, q => by
    have pa := rp_pos a
    obtain ⟨n, rfl⟩ : ∃ k, n = k + 1 := ⟨n - 1, by simp only [rp] at hn; omega⟩
    simp only [rp] at hn
    refine ⟨rfl, ?_⟩
    unfold ir31
    simp only [enR]
    walk_at "r"
    refine w_fhas a (by omega) ?_
    rw [show h0 (.cl a b) = (h0 a || h0 b) from rfl] at q
    cases ha : h0 a with
    | true =>
      rw [ha] at q
      walk_at "r"
      exact q
    | false =>
      rw [ha] at q
      walk_at "r"
      refine w_fhas b (by omega) ?_
      walk_at "r"
      exact q
theorem w_flo : ∀ (r : Rw) {n : Nat} {S : Sto} {Q : QD} {E : QX}, rp r ≤ n → h0 r = false → Q (enR (lo r)) S → (lvl prg n).fn 33 [enR r] S Q E
  | .vr 0, n, S, Q, E, _, h, _ => by simp [h0, z0] at h
  | .vr (j + 1), n, S, Q, E, hn, h, q => by
    obtain ⟨n, rfl⟩ : ∃ k, n = k + 1 := ⟨n - 1, by simp only [rp] at hn; omega⟩
    refine ⟨rfl, ?_⟩
    unfold ir33
    simp only [enR, lo] at q ⊢
    walk_at "r"
    rw [show (((j + 1 : Nat) : Int) - 1) = ((j + 1 - 1 : Nat) : Int) by omega]
    exact q
  | .nm w, n, S, Q, E, hn, h, q => by
    obtain ⟨n, rfl⟩ : ∃ k, n = k + 1 := ⟨n - 1, by simp only [rp] at hn; omega⟩
    refine ⟨rfl, ?_⟩
    unfold ir33
    simp only [enR, lo] at q ⊢
    walk_at "r"
    exact q
  | .cb w, n, S, Q, E, hn, h, q => by
    obtain ⟨n, rfl⟩ : ∃ k, n = k + 1 := ⟨n - 1, by simp only [rp] at hn; omega⟩
    refine ⟨rfl, ?_⟩
    unfold ir33
    simp only [enR, lo] at q ⊢
    walk_at "r"
    exact q
  | .cl a b, n, S, Q, E, hn, h, q => by
    have pa := rp_pos a
    obtain ⟨n, rfl⟩ : ∃ k, n = k + 1 := ⟨n - 1, by simp only [rp] at hn; omega⟩
    simp only [rp] at hn
    simp only [h0, Bool.or_eq_false_iff] at h
    refine ⟨rfl, ?_⟩
    unfold ir33
    simp only [enR, lo] at q ⊢
    walk_at "r"
    refine w_flo a (by omega) h.1 ?_
    walk_at "e"
    refine w_flo b (by omega) h.2 ?_
    walk_at "r"
    exact q
theorem w_calls2 {x y z : D} {a : Addr} {n : Nat} {S : Sto} {Q : QD} {E : QX} (ha : S a = some (.lst [y, z])) (q : Q (.tup [sCl, .tup [sCl, x, y], z]) S) : (lvl prg (n + 1)).fn 26 [x, .ref a] S Q E := w_callsD (rd_lst ha) q
theorem w_fwo : ∀ (r : Rw) {n : Nat} {S : Sto} {Q : QD} {E : QX}, rp r + 1 ≤ n → rg r = true → (∀ S', Sx S S' → Q (enR (wo r)) S') → (lvl prg n).fn 34 [enR r] S Q E := by
  intro r
  have leaf : ∀ (r : Rw) {n : Nat} {S : Sto} {Q : QD} {E : QX}, rp r = 1 → 2 ≤ n → rg r = true → (z0 r = true → wo r = .cb 0) → (z0 r = false → h0 r = false) → (∀ S', Sx S S' → Q (enR (wo r)) S') → (lvl prg n).fn 34 [enR r] S Q E := fun r n S Q E hp hn hg hw hh q => by
    obtain ⟨n, rfl⟩ : ∃ k, n = k + 2 := ⟨n - 2, by omega⟩
    refine ⟨rfl, ?_⟩
    unfold ir34
    walk_at "s"; walk_at "e"
    refine eq_z0 hg ?_
    cases e : z0 r with
    | true =>
      rw [hw e] at q
      walk_at "r"
      exact q S (Sx.refl S)
    | false =>
      have e0 := hh e
      rw [wo_no e0] at q
      walk_at "e"
      walk_at "s"
      walk_at "s"; walk_at "e"
      refine w_fhas r (by omega) ?_
      rw [e0]
      walk_at "r"
      refine w_flo r (by omega) e0 ?_
      walk_at "r"
      exact q S (Sx.refl S)
  induction r with
  | vr j => intro n S Q E hn hg q; exact leaf _ rfl (by simpa [rp] using hn) hg (fun h => match j, h with | 0, _ => rfl) (fun h => h) q
  | nm j => intro n S Q E hn hg q; exact leaf _ rfl (by simpa [rp] using hn) hg (fun h => by cases h) (fun h => rfl) q
  | cb j => intro n S Q E hn hg q; exact leaf _ rfl (by simpa [rp] using hn) hg (fun h => by cases h) (fun h => rfl) q
  | cl a b i1 i2 =>
    intro n S Q E hn hg q
    have pa := rp_pos a
    simp only [rp] at hn
    obtain ⟨n, rfl⟩ : ∃ k, n = k + 2 := ⟨n - 2, by omega⟩
    have hg' := hg
    simp only [rg, Bool.and_eq_true] at hg
    refine ⟨rfl, ?_⟩
    unfold ir34
    walk_at "s"; walk_at "e"
    refine eq_z0 hg' ?_
    rw [show z0 (.cl a b) = false from rfl]
    walk_at "e"
    walk_at "s"
    walk_at "s"; walk_at "e"
    refine w_fhas (.cl a b) (by simp only [rp]; omega) ?_
    rw [show h0 (.cl a b) = (h0 a || h0 b) from rfl]
    have zf : ∀ {S : Sto} {Q : QD} {E : QX} {b : Rw}, rp b ≤ n + 1 → Q (.bl (h0 b)) S → (lvl prg (n + 1)).fn 31 [enR b, .int 0] S Q E := fun h q => w_fhas _ h q
    rcases wo_cases a b with g | g | g | g | g
    · rw [g.1, g.2.1]
      rw [g.2.2] at q
      walk_at "r"
      refine w_flo (.cl a b) (by simp only [rp]; omega) (by simp [h0, g.1, g.2.1]) ?_
      walk_at "r"
      exact q S (Sx.refl S)
    · rw [g.1, g.2.1]
      rw [g.2.2.2] at q
      walk_at "e"
      walk_at "s"
      simp only [enR]
      walk_at "s"; walk_at "e"
      walk_at "s"; walk_at "e"
      refine eq_z0 hg.2 ?_
      rw [g.2.2.1]
      walk_at "e"
      refine zf (by omega) ?_
      rw [g.1]
      walk_at "r"
      exact w_flo a (by omega) g.1 (q S (Sx.refl S))
    · rw [g.1, g.2.1]
      rw [g.2.2.2] at q
      walk_at "e"
      walk_at "s"
      simp only [enR]
      walk_at "s"; walk_at "e"
      walk_at "s"; walk_at "e"
      refine eq_z0 hg.2 ?_
      rw [g.2.2.1]
      walk_at "e"
      walk_at "s"
      walk_at "s"; walk_at "e"
      refine zf (by omega) ?_
      rw [g.1]
      walk_at "r"
      refine w_flo a (by omega) g.1 ?_
      walk_at "e"
      refine i2 (by omega) hg.2 fun S1 x1 => ?_
      walk_at "e"
      intro p hp
      refine w_calls2 Sto.upd_same ?_
      exact q _ (x1.trans (Sx.new hp))
    · rw [g.1, g.2.1]
      rw [g.2.2] at q
      walk_at "e"
      walk_at "s"
      simp only [enR]
      walk_at "s"; walk_at "e"
      walk_at "s"; walk_at "e"
      refine eq_z0 hg.2 ?_
      have zb : z0 b = false := by cases e : z0 b with | false => rfl | true => rw [z0_h0 e] at g; cases g.2.1
      rw [zb]
      walk_at "e"
      walk_at "s"
      walk_at "s"; walk_at "e"
      refine zf (by omega) ?_
      rw [g.1]
      walk_at "e"
      walk_at "s"
      walk_at "s"; walk_at "e"
      refine zf (by omega) ?_
      rw [g.2.1]
      walk_at "r"
      refine i1 (by omega) hg.1 fun S1 x1 => ?_
      walk_at "e"
      refine w_flo b (by omega) g.2.1 ?_
      walk_at "e"
      intro p hp
      refine w_calls2 Sto.upd_same ?_
      exact q _ (x1.trans (Sx.new hp))
    · rw [g.1, g.2.1]
      rw [g.2.2] at q
      walk_at "e"
      walk_at "s"
      simp only [enR]
      walk_at "s"; walk_at "e"
      walk_at "s"; walk_at "e"
      refine eq_z0 hg.2 ?_
      have fin : wpSs (lvl prg (n + 1)) (dropS 4 ir34) { nx := fun _ S' => Q .non S', rt := Q } (fun x _ S' => E x S') [some (.tup [sCl, enR a, enR b]), some (enR a), some (enR b)] S := by
        dsimp only [dropS, ir34]
        walk_at "s"; walk_at "e"
        refine zf (by omega) ?_
        rw [g.1]
        walk_at "e"
        walk_at "s"
        walk_at "s"; walk_at "e"
        refine zf (by omega) ?_
        rw [g.2.1]
        walk_at "r"
        refine i1 (by omega) hg.1 fun S1 x1 => ?_
        walk_at "e"
        refine i2 (by omega) hg.2 fun S2 x2 => ?_
        walk_at "e"
        intro p hp
        refine w_calls2 Sto.upd_same ?_
        exact q _ ((x1.trans x2).trans (Sx.new hp))
      cases zb : z0 b with
      | true =>
        walk_at "e"
        refine zf (by omega) ?_
        rw [g.1]
        walk_at "e"
        walk_at "s"
        exact fin
      | false =>
        walk_at "e"
        walk_at "s"
        exact fin
theorem w_fmade : ∀ (t : Tm) {n : Nat} {S : Sto} {Q : QD} {E : QX}, dp t + 300 ≤ n → good t = true → okd t → (∀ S', Sx S S' → Q (enR (ro t)) S') → (lvl prg n).fn 35 [enc t] S Q E := by
  intro t
  induction t with
  | av j =>
    intro n S Q E hn hg ho q
    obtain ⟨n, rfl⟩ : ∃ k, n = k + 3 := ⟨n - 3, by omega⟩
    refine ⟨rfl, ?_⟩
    unfold ir35
    simp only [ro, enR] at q
    simp only [enc]
    walk_at "r"
    exact q S (Sx.refl S)
  | nm j =>
    intro n S Q E hn hg ho q
    obtain ⟨n, rfl⟩ : ∃ k, n = k + 3 := ⟨n - 3, by omega⟩
    refine ⟨rfl, ?_⟩
    unfold ir35
    simp only [ro, enR] at q
    simp only [enc]
    walk_at "r"
    exact q S (Sx.refl S)
  | fn t ih =>
    intro n S Q E hn hg ho q
    simp only [dp] at hn
    obtain ⟨n, rfl⟩ : ∃ k, n = k + 3 := ⟨n - 3, by omega⟩
    obtain ⟨o1, o2, o3⟩ := ho
    obtain ⟨o4, o5⟩ := okd_rp o3
    refine ⟨rfl, ?_⟩
    unfold ir35
    simp only [enc]
    walk_at "r"
    refine ih (by omega) hg o3 fun S1 x1 => ?_
    have gr : rg (ro t) = true := by rw [ro_rg]; exact hg
    exact w_fwo (ro t) (by omega) gr fun S2 x2 => q S2 (x1.trans x2)
  | cl t u i1 i2 =>
    intro n S Q E hn hg ho q
    simp only [dp] at hn
    obtain ⟨n, rfl⟩ : ∃ k, n = k + 3 := ⟨n - 3, by omega⟩
    obtain ⟨o1, o2, o3, o4⟩ := ho
    simp only [good, Bool.and_eq_true] at hg
    refine ⟨rfl, ?_⟩
    unfold ir35
    simp only [enc]
    walk_at "r"
    refine i1 (by omega) hg.1 o3 fun S1 x1 => ?_
    walk_at "e"
    refine i2 (by omega) hg.2 o4 fun S2 x2 => ?_
    walk_at "r"
    exact q S2 (x1.trans x2)
end K42
end Mini
end L2
namespace L2
namespace Mini
namespace K42
open PySem PySem.Spec PyProof.Rows
local macro_rules | `(tactic| walk_at "s") => `(tactic| first | with_reducible refine st_set ?_ | with_reducible refine st_ife ?_ | with_reducible refine st_ret ?_ | with_reducible refine st_ex ?_ | with_reducible refine st_unp ?_ | with_reducible refine st_unpl ?_ | with_reducible refine st_unpa ?_ | with_reducible refine st_aug ?_ | with_reducible refine st_for ?_ | with_reducible refine st_whl ?_ | with_reducible refine st_nil ?_ | with_reducible refine st_setix ?_ | with_reducible refine st_raise ?_ | with_reducible refine st_try ?_ | with_reducible refine st_setat ?_ | with_reducible refine st_augat ?_ | with_reducible refine st_pass ?_ | with_reducible refine st_brk ?_ | with_reducible refine st_cnt ?_)
local macro_rules | `(tactic| walk_at "e") => `(tactic| try simp only [fget, fput, eq_self, Nat.reduceEqDiff, and_true, Int.reduceBEq, wpC, goW, List.map_cons, List.map_nil, deq, deqs, List.any_cons, List.any_nil, slW, cut_1, Int.cast_ofNat_Int, Int.natCast_zero, Int.natCast_one, Int.reduceLE, Int.reduceLT, Int.reduceNeg, Int.reduceAdd, Int.reduceSub, decide_true, decide_false, inW_chr, List.contains_cons, List.contains_nil, Bool.or_true, Bool.true_or, Bool.or_false, Bool.false_or, gd, gds, List.all_cons, List.all_nil, Nat.reduceLT, List.zip_cons_cons, List.zip_nil_left, List.foldl_cons, List.foldl_nil, wpT, wpE, wpEs, wpO, wpI, env0, Env.get, List.map, List.length, List.replicate, List.getElem?_cons_zero, List.getElem?_cons_succ, List.nil_append, List.cons_append, List.append_nil, tru, isiW, cmpW, List.set, Nat.reduceSub, Nat.reduceAdd, Bool.not_true, Bool.not_false, Bool.false_eq_true, if_true, if_false, reduceIte, ixW, biW, bmTy, augW, tgW, newW, wpPs, dmerge, sqW_t, sqW_s, binW_ai, binW_si, binW_at, binW_as, binW_mi, binW_di, binW_mo, atI_0, atI_1, atI_2, ex_some, eqW_str, eqW_int, sz0, sz1, sz2, sz3, sz4, sz5, sz6, sz7, sz8, sz9, sz10, sz11, sz12, sz13, sz14, true_and, Bool.false_xor, Bool.true_xor, lb_cc, lb_nc, lb_cn, lb_nn, Nat.reduceBEq, Bool.and_true, Bool.true_and, Bool.false_and, Bool.and_false, beq_self_eq_true, binW_ms])
local macro_rules | `(tactic| walk_at "r") => `(tactic| ((try walk_at "s"); walk_at "e"; repeat (walk_at "s"; walk_at "e")))
local macro_rules | `(tactic| walk_at "w") => `(tactic| simp only [wpSs, wpS, wpT, wpE, wpEs, wpO, wpI, env0, Env.get, List.map, List.length, List.replicate, List.getElem?_cons_zero, List.getElem?_cons_succ, List.nil_append, List.cons_append, List.append_nil, tru, isiW, cmpW, List.set, Nat.reduceSub, Nat.reduceAdd, Bool.not_true, Bool.not_false, Bool.false_eq_true, if_true, if_false, reduceIte, ixW, biW, bmTy, sqW_t, sqW_s, binW_ai, binW_si, binW_at, binW_as, binW_mi, binW_di, binW_mo, atI_0, atI_1, atI_2, ex_some, eqW_str, eqW_int, sz0, sz1, sz2, sz3, sz4, sz5, sz6, sz7, sz11, true_and, Bool.false_xor, Bool.true_xor, lb_cc, lb_nc, lb_cn, lb_nn, Nat.reduceBEq, Bool.and_true, Bool.true_and, Bool.false_and, Bool.and_false, beq_self_eq_true])
local macro_rules | `(tactic| walk_at "q") => `(tactic| refine eqW_of rfl rfl (Nat.le_of_ble_eq_true rfl) ?_)
local macro_rules | `(tactic| walk_at "g") => `(tactic| (walk_at "r"; repeat (walk_at "q"; walk_at "r")))
/-! ### the terms of rows -/
def mC : Nat → Tm
  | 0 => .fn (.av 0)
  | 1 => .fn (.fn (.av 1))
  | 2 => fns 3 (.cl (.cl (.av 2) (.av 0)) (.cl (.av 1) (.av 0)))
  | 3 => fns 3 (.cl (.av 2) (.cl (.av 1) (.av 0)))
  | _ => fns 3 (.cl (.cl (.av 2) (.av 0)) (.av 1))
def mnR : Rw → Tm
  | .vr n => .av n
  | .nm w => .nm w
  | .cb j => mC j
  | .cl a b => .cl (mnR a) (mnR b)
theorem mC_sz (j : Nat) : sz (mC j) ≤ 10 ∧ dp (mC j) ≤ 6 ∧ good (mC j) = true := by
  have h4 : sz (mC 4) ≤ 10 ∧ dp (mC 4) ≤ 6 ∧ good (mC 4) = true := by decide
  rcases j with _ | _ | _ | _ | j
  · decide
  · decide
  · decide
  · decide
  · exact h4
theorem mnR_sz : ∀ r, sz (mnR r) ≤ 11 * rs r
  | .vr _ => by simp [mnR, sz, rs]
  | .nm _ => by simp [mnR, sz, rs]
  | .cb j => by have := (mC_sz j).1; simp only [mnR, rs]; omega
  | .cl a b => by have := mnR_sz a; have := mnR_sz b; simp only [mnR, sz, rs]; omega
theorem mnR_dp : ∀ r, dp (mnR r) ≤ rp r + 6
  | .vr _ => by simp [mnR, dp]
  | .nm _ => by simp [mnR, dp]
  | .cb j => by have := (mC_sz j).2.1; simp only [mnR]; omega
  | .cl a b => by have := mnR_dp a; have := mnR_dp b; simp only [mnR, dp, rp]; omega
theorem mnR_good : ∀ {r}, rg r = true → good (mnR r) = true
  | .vr _, _ => rfl
  | .nm _, h => h
  | .cb j, _ => (mC_sz j).2.2
  | .cl a b, h => by
    simp only [rg, Bool.and_eq_true] at h
    simp only [mnR, good, mnR_good h.1, mnR_good h.2, Bool.and_true]
/-! the program's -/
theorem for_fn {n : Nat} {S : Sto} {K : En} {X : EX} {x : D} : ∀ (ds : List D) (t : Tm) (o : Option D), (∀ o, K.nx [some x, some (enc (fns ds.length t)), o] S) →
    forW (fun _ => True) (.nm 2) (fun K σ S => wpSs (lvl prg n) (forBody ir11) K X σ S) K ds [some x, some (enc t), o] S
  | [], t, o, q => ⟨True.intro, q o⟩
  | d :: ds, t, o, q => by
    refine forW_step True.intro rfl fun K' knx _ krt _ => ?_
    dsimp only [forBody, ir11]
    walk_at "s"; walk_at "e"
    walk_at "s"
    exact knx _ _ (for_fn ds (.fn t) _ q)
theorem w_fn {k : Nat} {t : Tm} {n : Nat} {S : Sto} {Q : QD} {E : QX} (hk : k < 1000) (q : Q (enc (fns k t)) S) : (lvl prg (n + 1)).fn 11 [.int k, enc t] S Q E := by
  refine ⟨rfl, ?_⟩
  unfold ir11
  walk_at "s"; walk_at "e"
  have hl : (rngD 0 ((k : Int)).toNat).length = k := by simp [rngD]
  refine ⟨by omega, by omega, for_fn _ t none fun o => ?_⟩
  rw [hl]
  dsimp only
  walk_at "s"; walk_at "e"
  exact q
abbrev kvM : List (Ky × D) := [(.inr [73], enc (mC 0)), (.inr [75], enc (mC 1)), (.inr [83], enc (mC 2)), (.inr [66], enc (mC 3)), (.inr [67], enc (mC 4))]
theorem kvM_get (j : Nat) : dget kvM (.inr (lt j)) = some (enc (mC j)) := by rcases j with _ | _ | _ | _ | j <;> rfl
theorem w_meanings {n : Nat} {S : Sto} {Q : QD} {E : QX} (q : ∀ p S', S' p = some (.dct kvM) → Sx S S' → Q (.ref p) S') : (lvl prg (n + 2)).fn 12 [] S Q E := by
  refine ⟨rfl, ?_⟩
  unfold ir12
  walk_at "s"; walk_at "e"
  refine w_atR (n := n) ?_
  refine w_atR (n := n) ?_
  refine w_atR (n := n) ?_
  walk_at "e"
  walk_at "s"; walk_at "e"
  intro p hp
  walk_at "e"
  refine w_atR (n := n) ?_
  refine w_fn (n := n) (k := 1) (t := .av 0) (by omega) ?_
  walk_at "e"
  refine w_atR (n := n) ?_
  refine w_fn (n := n) (k := 2) (t := .av 1) (by omega) ?_
  walk_at "e"
  refine w_callR (n := n) ?_
  refine w_callR (n := n) ?_
  refine w_callR (n := n) ?_
  refine w_fn (n := n) (k := 3) (t := .cl (.cl (.av 2) (.av 0)) (.cl (.av 1) (.av 0))) (by omega) ?_
  walk_at "e"
  refine w_callR (n := n) ?_
  refine w_callR (n := n) ?_
  refine w_fn (n := n) (k := 3) (t := .cl (.av 2) (.cl (.av 1) (.av 0))) (by omega) ?_
  walk_at "e"
  refine w_callR (n := n) ?_
  refine w_callR (n := n) ?_
  refine w_fn (n := n) (k := 3) (t := .cl (.cl (.av 2) (.av 0)) (.av 1)) (by omega) ?_
  walk_at "e"
  refine ⟨_, rfl, _, rfl, _, rfl, _, rfl, _, rfl, Sto.upd_same, by decide, ?_⟩
  exact q p _ (by rw [Sto.upd_same]; rfl) ((Sxb.put.trans Sxb.put).of_new hp)
theorem w_meant {p : Addr} : ∀ (r : Rw) {n : Nat} {S : Sto} {Q : QD} {E : QX}, rp r + 1 ≤ n → S p = some (.dct kvM) → Q (enc (mnR r)) S → (lvl prg n).fn 18 [enR r, .ref p] S Q E
  | .vr j, n, S, Q, E, hn, hp, q => by
    obtain ⟨n, rfl⟩ : ∃ k, n = k + 2 := ⟨n - 2, by simp only [rp] at hn; omega⟩
    refine ⟨rfl, ?_⟩
    unfold ir18
    simp only [enR, mnR, enc] at q ⊢
    walk_at "r"
    exact q
  | .nm j, n, S, Q, E, hn, hp, q => by
    obtain ⟨n, rfl⟩ : ∃ k, n = k + 2 := ⟨n - 2, by simp only [rp] at hn; omega⟩
    refine ⟨rfl, ?_⟩
    unfold ir18
    simp only [enR, mnR, enc] at q ⊢
    walk_at "r"
    exact q
  | .cb j, n, S, Q, E, hn, hp, q => by
    obtain ⟨n, rfl⟩ : ∃ k, n = k + 2 := ⟨n - 2, by simp only [rp] at hn; omega⟩
    refine ⟨rfl, ?_⟩
    unfold ir18
    simp only [enR]
    walk_at "r"
    rw [hp]
    exact ⟨_, kvM_get j, q⟩
  | .cl a b, n, S, Q, E, hn, hp, q => by
    have pa := rp_pos a
    obtain ⟨n, rfl⟩ : ∃ k, n = k + 2 := ⟨n - 2, by simp only [rp] at hn; omega⟩
    simp only [rp] at hn
    refine ⟨rfl, ?_⟩
    unfold ir18
    simp only [enR]
    walk_at "r"
    refine w_meant a (by omega) hp ?_
    refine w_meant b (by omega) hp ?_
    exact w_callR q
theorem w_termof {r : Rw} {n : Nat} {S : Sto} {Q : QD} {E : QX} (hr : rc r = true) (hz : rs r ≤ 300) (q : ∀ S', Sx S S' → Q (enc (mnR r)) S') : (lvl prg (n + 400)).fn 19 [enR r] S Q E := by
  have dr := rp_rs r
  have z1 := mnR_sz r
  have d1 := mnR_dp r
  refine ⟨rfl, ?_⟩
  unfold ir19
  walk_at "s"; walk_at "e"
  refine ⟨rfl, ?_⟩
  unfold ir8
  walk_at "s"; walk_at "e"
  refine w_isR (n := n + 395) hr (by omega) (by omega) fun S1 x1 => ?_
  walk_at "e"
  walk_at "s"
  walk_at "s"; walk_at "e"
  refine w_meanings (n := n + 397) fun p S2 hp x2 => ?_
  refine w_meant r (by omega) hp ?_
  refine w_made (n := n + 398) (mnR_good (rc_rg hr)) (by omega) (fun S3 x3 _ _ => q S3 ((x1.trans x2).trans x3)) fun S3 x3 h => by omega
/-! the law's -/
abbrev kvL : List (Ky × D) := [(.inr [83], enc (.cl (.cl (.av 2) (.av 0)) (.cl (.av 1) (.av 0)))), (.inr [66], enc (.cl (.av 2) (.cl (.av 1) (.av 0)))), (.inr [67], enc (.cl (.cl (.av 2) (.av 0)) (.av 1)))]
theorem w_fmeant : ∀ (r : Rw) {n : Nat} {S : Sto} {Q : QD} {E : QX}, rp r + 1 ≤ n → (∀ S', Sx S S' → Q (enc (mnR r)) S') → (lvl prg n).fn 36 [enR r] S Q E
  | .vr j, n, S, Q, E, hn, q => by
    obtain ⟨n, rfl⟩ : ∃ k, n = k + 2 := ⟨n - 2, by simp only [rp] at hn; omega⟩
    refine ⟨rfl, ?_⟩
    unfold ir36
    simp only [enR, mnR, enc] at q ⊢
    walk_at "r"
    exact q S (Sx.refl S)
  | .nm j, n, S, Q, E, hn, q => by
    obtain ⟨n, rfl⟩ : ∃ k, n = k + 2 := ⟨n - 2, by simp only [rp] at hn; omega⟩
    refine ⟨rfl, ?_⟩
    unfold ir36
    simp only [enR, mnR, enc] at q ⊢
    walk_at "r"
    exact q S (Sx.refl S)
  | .cb j, n, S, Q, E, hn, q => by
    obtain ⟨n, rfl⟩ : ∃ k, n = k + 2 := ⟨n - 2, by simp only [rp] at hn; omega⟩
    refine ⟨rfl, ?_⟩
    unfold ir36
    simp only [enR]
    walk_at "r"
    intro p hp
    walk_at "e"
    refine ⟨_, rfl, _, rfl, _, rfl, Sto.upd_same, by decide, ?_⟩
    have h2 : ((S.upd p (.dct [])).upd p (.dct kvL)) p = some (.dct kvL) := by rw [Sto.upd_same]
    have x2 : Sx S ((S.upd p (.dct [])).upd p (.dct kvL)) := (Sxb.put.trans Sxb.put).of_new hp
    change wpSs _ _ _ _ _ ((S.upd p (.dct [])).upd p (.dct kvL))
    generalize (S.upd p (.dct [])).upd p (.dct kvL) = S2 at h2 x2 ⊢
    have inn : ∀ {l : List Nat} {b : Bool} {Q : QD}, (dget kvL (.inr l)).isSome = b → Q (.bl b) S2 → inW (.str l) (.ref p) false S2 Q := fun {l b Q} e q => by
      have go : inW (.str l) (.ref p) false S2 Q = Q (.bl (false ^^ (dget kvL (.inr l)).isSome)) S2 := by
        rcases l with _ | ⟨c, _ | ⟨d, l⟩⟩ <;> (unfold inW; simp only [h2])
      rw [go, e, Bool.false_xor]
      exact q
    rcases j with _ | _ | _ | _ | j
    · simp only [lt, mnR, mC] at q ⊢
      walk_at "s"; walk_at "e"
      refine inn (b := false) rfl ?_
      walk_at "r"
      exact w_funs (k := 1) (t := .av 0) (by omega) (q S2 x2)
    · simp only [lt, mnR, mC] at q ⊢
      walk_at "s"; walk_at "e"
      refine inn (b := false) rfl ?_
      walk_at "r"
      exact w_funs (k := 2) (t := .av 1) (by omega) (q S2 x2)
    · simp only [lt, mnR, mC] at q ⊢
      walk_at "s"; walk_at "e"
      refine inn (b := true) rfl ?_
      walk_at "r"
      rw [h2]
      refine ⟨_, rfl, ?_⟩
      exact w_funs (k := 3) (t := .cl (.cl (.av 2) (.av 0)) (.cl (.av 1) (.av 0))) (by omega) (q S2 x2)
    · simp only [lt, mnR, mC] at q ⊢
      walk_at "s"; walk_at "e"
      refine inn (b := true) rfl ?_
      walk_at "r"
      rw [h2]
      refine ⟨_, rfl, ?_⟩
      exact w_funs (k := 3) (t := .cl (.av 2) (.cl (.av 1) (.av 0))) (by omega) (q S2 x2)
    · simp only [lt, mnR, mC] at q ⊢
      walk_at "s"; walk_at "e"
      refine inn (b := true) rfl ?_
      walk_at "r"
      rw [h2]
      refine ⟨_, rfl, ?_⟩
      exact w_funs (k := 3) (t := .cl (.cl (.av 2) (.av 0)) (.av 1)) (by omega) (q S2 x2)
  | .cl a b, n, S, Q, E, hn, q => by
    have pa := rp_pos a
    obtain ⟨n, rfl⟩ : ∃ k, n = k + 2 := ⟨n - 2, by simp only [rp] at hn; omega⟩
    simp only [rp] at hn
    refine ⟨rfl, ?_⟩
    unfold ir36
    simp only [enR]
    walk_at "r"
    refine w_fmeant a (by omega) fun S1 x1 => ?_
    walk_at "e"
    refine w_fmeant b (by omega) fun S2 x2 => ?_
    walk_at "e"
    exact q S2 (x1.trans x2)
end K42
end Mini
end L2
namespace L2
namespace Mini
namespace K42
open PySem PySem.Spec PyProof.Rows
local macro_rules | `(tactic| walk_at "s") => `(tactic| first | with_reducible refine st_set ?_ | with_reducible refine st_ife ?_ | with_reducible refine st_ret ?_ | with_reducible refine st_ex ?_ | with_reducible refine st_unp ?_ | with_reducible refine st_unpl ?_ | with_reducible refine st_unpa ?_ | with_reducible refine st_aug ?_ | with_reducible refine st_for ?_ | with_reducible refine st_whl ?_ | with_reducible refine st_nil ?_ | with_reducible refine st_setix ?_ | with_reducible refine st_raise ?_ | with_reducible refine st_try ?_ | with_reducible refine st_setat ?_ | with_reducible refine st_augat ?_ | with_reducible refine st_pass ?_ | with_reducible refine st_brk ?_ | with_reducible refine st_cnt ?_)
local macro_rules | `(tactic| walk_at "e") => `(tactic| try simp only [fget, fput, eq_self, Nat.reduceEqDiff, and_true, Int.reduceBEq, wpC, goW, List.map_cons, List.map_nil, deq, deqs, List.any_cons, List.any_nil, slW, cut_1, Int.cast_ofNat_Int, Int.natCast_zero, Int.natCast_one, Int.reduceLE, Int.reduceLT, Int.reduceNeg, Int.reduceAdd, Int.reduceSub, decide_true, decide_false, inW_chr, List.contains_cons, List.contains_nil, Bool.or_true, Bool.true_or, Bool.or_false, Bool.false_or, gd, gds, List.all_cons, List.all_nil, Nat.reduceLT, List.zip_cons_cons, List.zip_nil_left, List.foldl_cons, List.foldl_nil, wpT, wpE, wpEs, wpO, wpI, env0, Env.get, List.map, List.length, List.replicate, List.getElem?_cons_zero, List.getElem?_cons_succ, List.nil_append, List.cons_append, List.append_nil, tru, isiW, cmpW, List.set, Nat.reduceSub, Nat.reduceAdd, Bool.not_true, Bool.not_false, Bool.false_eq_true, if_true, if_false, reduceIte, ixW, biW, bmTy, augW, tgW, newW, wpPs, dmerge, sqW_t, sqW_s, binW_ai, binW_si, binW_at, binW_as, binW_mi, binW_di, binW_mo, atI_0, atI_1, atI_2, ex_some, eqW_str, eqW_int, sz0, sz1, sz2, sz3, sz4, sz5, sz6, sz7, sz8, sz9, sz10, sz11, sz12, sz13, sz14, true_and, Bool.false_xor, Bool.true_xor, lb_cc, lb_nc, lb_cn, lb_nn, Nat.reduceBEq, Bool.and_true, Bool.true_and, Bool.false_and, Bool.and_false, beq_self_eq_true, binW_ms])
local macro_rules | `(tactic| walk_at "r") => `(tactic| ((try walk_at "s"); walk_at "e"; repeat (walk_at "s"; walk_at "e")))
local macro_rules | `(tactic| walk_at "w") => `(tactic| simp only [wpSs, wpS, wpT, wpE, wpEs, wpO, wpI, env0, Env.get, List.map, List.length, List.replicate, List.getElem?_cons_zero, List.getElem?_cons_succ, List.nil_append, List.cons_append, List.append_nil, tru, isiW, cmpW, List.set, Nat.reduceSub, Nat.reduceAdd, Bool.not_true, Bool.not_false, Bool.false_eq_true, if_true, if_false, reduceIte, ixW, biW, bmTy, sqW_t, sqW_s, binW_ai, binW_si, binW_at, binW_as, binW_mi, binW_di, binW_mo, atI_0, atI_1, atI_2, ex_some, eqW_str, eqW_int, sz0, sz1, sz2, sz3, sz4, sz5, sz6, sz7, sz11, true_and, Bool.false_xor, Bool.true_xor, lb_cc, lb_nc, lb_cn, lb_nn, Nat.reduceBEq, Bool.and_true, Bool.true_and, Bool.false_and, Bool.and_false, beq_self_eq_true])
local macro_rules | `(tactic| walk_at "q") => `(tactic| refine eqW_of rfl rfl (Nat.le_of_ble_eq_true rfl) ?_)
local macro_rules | `(tactic| walk_at "g") => `(tactic| (walk_at "r"; repeat (walk_at "q"; walk_at "r")))
/-! ### the drawn terms: their rows are not too great -/
theorem fi_lt : ∀ t : Tm, fi t + 1 ≤ sz t
  | .av _ => by simp [fi, sz]
  | .nm _ => by simp [fi, sz]
  | .fn t => by have := fi_lt t; simp only [fi, sz]; omega
  | .cl t u => by have := fi_lt t; have := fi_lt u; simp only [fi, sz]; omega
def Pp (u : Tm) : Prop := okd u ∧ rp (ro u) ≤ 200 ∧ rs (ro u) ≤ 40000
theorem Pp.of_fi {u : Tm} (h : fi u ≤ 24) : Pp u := by
  have h1 := rs_ro (t := u) (by omega)
  have h2 := fi_sz u
  exact ⟨okd_fi h, rp_ro h, by omega⟩
theorem Pp.of_kn {u : Tm} (h : knB u = true) : Pp u := by
  simp only [knB, Bool.and_eq_true, decide_eq_true_eq] at h
  have := fi_lt u
  exact .of_fi (by omega)
theorem okd_cls : ∀ (l : List Tm) (h : Tm) (a b : Nat), okd h → rp (ro h) ≤ a → rs (ro h) ≤ b → 200 ≤ a → (∀ u ∈ l, Pp u) → a + l.length ≤ 290 → b + l.length * 40001 ≤ 200000 → okd (Mini.cls h l)
  | [], h, a, b, ho, _, _, _, _, _, _ => ho
  | u :: l, h, a, b, ho, h1, h2, h3, hl, h4, h5 => by
    obtain ⟨p1, p2, p3⟩ := hl u List.mem_cons_self
    simp only [List.length_cons] at h4 h5
    refine okd_cls l (.cl h u) (a + 1) (b + 40001) ⟨?_, ?_, ho, p1⟩ ?_ ?_ (by omega) (fun v hv => hl v (List.mem_cons_of_mem _ hv)) (by omega) (by omega)
    · simp only [ro, rp]; omega
    · simp only [ro, rs]; omega
    · simp only [ro, rp]; omega
    · simp only [ro, rs]; omega
theorem Pp.cls {l : List Tm} {h : Tm} (hl : l.length ≤ 3) (hh : Pp h) (hu : ∀ u ∈ l, Pp u) : okd (Mini.cls h l) := okd_cls l h 200 40000 hh.1 hh.2.1 hh.2.2 (Nat.le_refl _) hu (by omega) (by omega)
theorem w_termR {t c : Addr} {n : Nat} {S : Sto} {Q : QD} {E : QX} (h : Tp t c S) (hn : 34 ≤ n) (q : ∀ u S', Tt 28 174 u → okd u → Tp t c S' → Sd t c S S' → Q (enc u) S') : (lvl prg n).fn 29 [.ref t, .int 24] S Q E := by
  obtain ⟨n, rfl⟩ : ∃ j, n = j + 10 := ⟨n - 10, by omega⟩
  refine ⟨rfl, ?_⟩
  unfold ir29
  walk_at "r"
  refine w_draw (n := n + 8) (m := 4) h (by omega) (by omega) fun pk S1 hpk h1 x1 => ?_
  have ek : ((pk : Int) == 0) = (pk == 0) := by cases pk <;> rfl
  have ek1 : ((pk : Int) == 1) = (pk == 1) := by rcases pk with _ | _ | pk <;> first | rfl | (simp; omega)
  walk_at "r"
  rw [ek]
  cases e0 : (pk == 0) with
  | true =>
    walk_at "r"
    refine w_known (n := n + 6) h1 fun u0 S2 k0 h2 x2 => ?_
    walk_at "e"
    refine w_draw (n := n + 8) (m := 4) h2 (by omega) (by omega) fun r S3 hr h3 x3 => ?_
    walk_at "e"
    refine ⟨by omega, by omega, fun p hp => ?_⟩
    have np := new_tp h3 hp
    refine goW_inv (Li t c p r (fun u => Tt 24 48 u ∧ Pp u) S3) (fun d ds S4 K h4 k4 => ?_) (fun _ _ _ => True.intro) (fun S4 h4 => ?_) _ _ ⟨h3.new hp, (Sd.refl _ _ _).fresh hp, [], Sto.upd_same, fun _ h => (by cases h), by simp [rngD]⟩
    · walk_at "e"
      refine w_known (n := n + 6) h4.tp fun u S5 ku h5 x5 => ?_
      obtain ⟨acc, e1, e2, h6⟩ := h4.push np.1 np.2 hp (by omega) h5 x5 ⟨(Tt.of_kn ku).mono (by omega) (by omega), Pp.of_kn ku⟩
      exact ⟨acc, e1, e2, k4 _ h6⟩
    · obtain ⟨us, e1, e2, e3⟩ := h4.l
      refine w_calls (n := n + 8) (rd_lst e1) ?_
      simp only [List.length_nil] at e3
      refine q _ S4 ((Tt.cls ((Tt.of_kn k0).mono (a' := 24) (b' := 20) (by omega) (by omega)) (Nat.le_refl _) (fun u hu => (e2 u hu).1)).mono (by omega) (by omega)) (Pp.cls (by omega) (Pp.of_kn k0) (fun u hu => (e2 u hu).2)) h4.tp (((x1.trans x2).trans x3).trans h4.x)
  | false =>
    walk_at "r"
    rw [ek1]
    cases e1 : (pk == 1) with
    | true =>
      walk_at "r"
      refine w_known (n := n + 6) h1 fun u0 S2 k0 h2 x2 => ?_
      walk_at "e"
      refine w_draw (n := n + 8) (m := 3) h2 (by omega) (by omega) fun r S3 hr h3 x3 => ?_
      walk_at "e"
      have er : (1 + (r : Int)) = ((1 + r : Nat) : Int) := by omega
      rw [er]
      refine ⟨by omega, by omega, fun p hp => ?_⟩
      have np := new_tp h3 hp
      refine goW_inv (Li t c p (1 + r) (fun u => Tt 24 48 u ∧ Pp u) S3) (fun d ds S4 K h4 k4 => ?_) (fun _ _ _ => True.intro) (fun S4 h4 => ?_) _ _ ⟨h3.new hp, (Sd.refl _ _ _).fresh hp, [], Sto.upd_same, fun _ h => (by cases h), by simp [rngD]; omega⟩
      · walk_at "e"
        refine w_draw (n := n + 8) (m := 24) h4.tp (by omega) (by omega) fun s S5 hs h5 x5 => ?_
        have es : (1 + (s : Int)) = ((1 + s : Nat) : Int) := by omega
        walk_at "e"
        rw [es]
        refine w_part (around := 0) (1 + s) (by omega) (by omega) (by omega) h5 fun u S6 gu cu fu h6 x6 => ?_
        obtain ⟨acc, e1, e2, h7⟩ := h4.push np.1 np.2 hp (by omega) h6 (x5.trans x6) ⟨(Tt.of_fi (k := 24) gu cu (by omega)).mono (by omega) (by omega), Pp.of_fi (by omega)⟩
        exact ⟨acc, e1, e2, k4 _ h7⟩
      · obtain ⟨us, e1, e2, e3⟩ := h4.l
        refine w_calls (n := n + 8) (rd_lst e1) ?_
        simp only [List.length_nil] at e3
        have : us.length ≤ 3 := by omega
        refine q _ S4 ((Tt.cls ((Tt.of_kn k0).mono (a' := 24) (b' := 20) (by omega) (by omega)) (Nat.le_refl _) (fun u hu => (e2 u hu).1)).mono (by omega) (by omega)) (Pp.cls (by omega) (Pp.of_kn k0) (fun u hu => (e2 u hu).2)) h4.tp (((x1.trans x2).trans x3).trans h4.x)
    | false =>
      walk_at "r"
      refine w_draw (n := n + 8) (m := 24) h1 (by omega) (by omega) fun s S2 hs h2 x2 => ?_
      have es : (2 + (s : Int)) = ((2 + s : Nat) : Int) := by omega
      walk_at "e"
      rw [es]
      refine w_part (around := 0) (2 + s) (by omega) (by omega) (by omega) h2 fun u S3 gu cu fu h3 x3 => ?_
      exact q u S3 ((Tt.of_fi (k := 25) gu cu (by omega)).mono (by omega) (by omega)) (okd_fi (by omega)) h3 ((x1.trans x2).trans x3)
end K42
end Mini
end L2
namespace L2
namespace Mini
namespace K42
open PySem PySem.Spec PyProof.Rows
local macro_rules | `(tactic| walk_at "s") => `(tactic| first | with_reducible refine st_set ?_ | with_reducible refine st_ife ?_ | with_reducible refine st_ret ?_ | with_reducible refine st_ex ?_ | with_reducible refine st_unp ?_ | with_reducible refine st_unpl ?_ | with_reducible refine st_unpa ?_ | with_reducible refine st_aug ?_ | with_reducible refine st_for ?_ | with_reducible refine st_whl ?_ | with_reducible refine st_nil ?_ | with_reducible refine st_setix ?_ | with_reducible refine st_raise ?_ | with_reducible refine st_try ?_ | with_reducible refine st_setat ?_ | with_reducible refine st_augat ?_ | with_reducible refine st_pass ?_ | with_reducible refine st_brk ?_ | with_reducible refine st_cnt ?_)
local macro_rules | `(tactic| walk_at "e") => `(tactic| try simp only [fget, fput, eq_self, Nat.reduceEqDiff, and_true, Int.reduceBEq, wpC, goW, List.map_cons, List.map_nil, deq, deqs, List.any_cons, List.any_nil, slW, cut_1, Int.cast_ofNat_Int, Int.natCast_zero, Int.natCast_one, Int.reduceLE, Int.reduceLT, Int.reduceNeg, Int.reduceAdd, Int.reduceSub, decide_true, decide_false, inW_chr, List.contains_cons, List.contains_nil, Bool.or_true, Bool.true_or, Bool.or_false, Bool.false_or, gd, gds, List.all_cons, List.all_nil, Nat.reduceLT, List.zip_cons_cons, List.zip_nil_left, List.foldl_cons, List.foldl_nil, wpT, wpE, wpEs, wpO, wpI, env0, Env.get, List.map, List.length, List.replicate, List.getElem?_cons_zero, List.getElem?_cons_succ, List.nil_append, List.cons_append, List.append_nil, tru, isiW, cmpW, List.set, Nat.reduceSub, Nat.reduceAdd, Bool.not_true, Bool.not_false, Bool.false_eq_true, if_true, if_false, reduceIte, ixW, biW, bmTy, augW, tgW, newW, wpPs, dmerge, sqW_t, sqW_s, binW_ai, binW_si, binW_at, binW_as, binW_mi, binW_di, binW_mo, atI_0, atI_1, atI_2, ex_some, eqW_str, eqW_int, sz0, sz1, sz2, sz3, sz4, sz5, sz6, sz7, sz8, sz9, sz10, sz11, sz12, sz13, sz14, true_and, Bool.false_xor, Bool.true_xor, lb_cc, lb_nc, lb_cn, lb_nn, Nat.reduceBEq, Bool.and_true, Bool.true_and, Bool.false_and, Bool.and_false, beq_self_eq_true, binW_ms])
local macro_rules | `(tactic| walk_at "r") => `(tactic| ((try walk_at "s"); walk_at "e"; repeat (walk_at "s"; walk_at "e")))
local macro_rules | `(tactic| walk_at "w") => `(tactic| simp only [wpSs, wpS, wpT, wpE, wpEs, wpO, wpI, env0, Env.get, List.map, List.length, List.replicate, List.getElem?_cons_zero, List.getElem?_cons_succ, List.nil_append, List.cons_append, List.append_nil, tru, isiW, cmpW, List.set, Nat.reduceSub, Nat.reduceAdd, Bool.not_true, Bool.not_false, Bool.false_eq_true, if_true, if_false, reduceIte, ixW, biW, bmTy, sqW_t, sqW_s, binW_ai, binW_si, binW_at, binW_as, binW_mi, binW_di, binW_mo, atI_0, atI_1, atI_2, ex_some, eqW_str, eqW_int, sz0, sz1, sz2, sz3, sz4, sz5, sz6, sz7, sz11, true_and, Bool.false_xor, Bool.true_xor, lb_cc, lb_nc, lb_cn, lb_nn, Nat.reduceBEq, Bool.and_true, Bool.true_and, Bool.false_and, Bool.and_false, beq_self_eq_true])
local macro_rules | `(tactic| walk_at "q") => `(tactic| refine eqW_of rfl rfl (Nat.le_of_ble_eq_true rfl) ?_)
local macro_rules | `(tactic| walk_at "g") => `(tactic| (walk_at "r"; repeat (walk_at "q"; walk_at "r")))
abbrev sRow : D := .str [114, 111, 119]
/-! ### values that are no rows -/
structure NoL (d : D) (S : Sto) : Prop where
  fm : ∃ (s : List Nat) (k : Nat), s.all (fun c => decide (c < 0x110000)) = true ∧ (s == [99, 97, 108, 108] && k == 3) = false ∧ ∀ n S' (Q : QD) (E : QX), Sx S S' → Q (.tup [.str s, .int (k : Int)]) S' → (lvl prg (n + 1)).fn 2 [d] S' Q E
  lf : ∀ n S' (Q : QD) (E : QX), Sx S S' → (∀ S'', Sx S' S'' → Q (.bl false) S'') → (lvl prg (n + 2)).fn 6 [d] S' Q E
theorem eq_fo' {S : Sto} {s t : List Nat} {k j : Nat} {neg : Bool} {Q : QD} (hs : s.all (fun c => decide (c < 0x110000)) = true) (ht : t.all (fun c => decide (c < 0x110000)) = true) (q : Q (.bl (neg ^^ (s == t && k == j))) S) : eqW (.tup [.str s, .int (k : Int)]) (.tup [.str t, .int (j : Int)]) neg S Q := by
  refine eqW_of (by simp [gd, gds, hs]) (by simp [gd, gds, ht]) (by simp [dd, dds]) ?_
  have e : deq (.tup [.str s, .int (k : Int)]) (.tup [.str t, .int (j : Int)]) = (s == t && k == j) := by
    simp only [deq, deqs, Bool.and_true]
    congr 1
    rw [Bool.eq_iff_iff, beq_iff_eq, beq_iff_eq]
    omega
  rw [e]
  exact q
theorem NoL.sx {d : D} {S S' : Sto} (h : NoL d S) (x : Sx S S') : NoL d S' := ⟨let ⟨s, k, h1, h2, h3⟩ := h.fm; ⟨s, k, h1, h2, fun n S2 Q E x2 q => h3 n S2 Q E (x.trans x2) q⟩, fun n S2 Q E x2 q => h.lf n S2 Q E (x.trans x2) q⟩
/-- by its form: no leaf -/
theorem NoL.of {d : D} {S : Sto} {s : List Nat} {k : Nat} (h1 : s.all (fun c => decide (c < 0x110000)) = true) (hc : (s == [99, 97, 108, 108] && k == 3) = false) (hm : (s == [99, 111, 109, 98] && k == 2) = false) (hn : (s == [110, 97, 109, 101] && k == 2) = false)
    (f : ∀ n S' (Q : QD) (E : QX), Sx S S' → Q (.tup [.str s, .int (k : Int)]) S' → (lvl prg (n + 1)).fn 2 [d] S' Q E) : NoL d S := by
  refine ⟨⟨s, k, h1, hc, f⟩, fun n S' Q E x q => ?_⟩
  refine ⟨rfl, ?_⟩
  unfold ir6
  walk_at "s"; walk_at "e"
  refine f n S' _ _ x ?_
  walk_at "s"; walk_at "e"
  refine eq_fo' (t := [99, 111, 109, 98]) (j := 2) h1 rfl ?_
  rw [hm]
  walk_at "e"
  walk_at "s"
  walk_at "s"; walk_at "e"
  refine eq_fo' (t := [110, 97, 109, 101]) (j := 2) h1 rfl ?_
  rw [hn]
  walk_at "e"
  exact q S' (Sx.refl S')
theorem eqW_nilP {S : Sto} {a b : Addr} {ds : List D} {ps : List PyData} {neg : Bool} {Q : QD} (h : rd S a = some ds) (g : PDs S ds ps) (h2 : rd S b = some []) (q : Q (.bl (neg ^^ ds.isEmpty)) S) : eqW (.ref a) (.ref b) neg S Q := by
  show ∃ r, Eqv S (.ref a) (.ref b) r ∧ Q (.bl (neg ^^ r)) S
  refine ⟨ds.isEmpty, ?_, q⟩
  have e := Eqv.dat (PD.ref h g) (PD.ref h2 .nil) (show eqRoom (.list ps) (.list []) by
    unfold eqRoom
    show min (PyData.depthAll ps + 1) 1 ≤ 190
    omega)
  cases g with
  | nil => exact e
  | cons _ _ => exact e
theorem w_isC_no {d : D} {n : Nat} {S : Sto} {Q : QD} {E : QX} (h : NoL d S) (pd : ∀ S', Sx S S' → ∃ p, PD S' d p) (q : ∀ S', Sx S S' → Q (.bl false) S') : (lvl prg (n + 3)).fn 7 [d] S Q E := by
  obtain ⟨s, k, hs, hc, hf⟩ := h.fm
  refine ⟨rfl, ?_⟩
  unfold ir7
  walk_at "s"; walk_at "e"
  intro p hp
  walk_at "s"; walk_at "e"
  walk_at "s"
  refine ⟨fun m σ S1 => σ = [some d, some (.ref p), some (.int 0), none, none] ∧ S1 p = some (.lst [.tup [d, .int 1]]) ∧ Sxb p S S1, ⟨0, rfl, Sto.upd_same, Sxb.put⟩, ?_⟩
  rintro m σ S1 ⟨rfl, h1, x1⟩
  walk_at "e"
  intro l hl
  have ne : p ≠ l := new_ne h1 hl
  have h1' : (S1.upd l (.lst [])) p = some (.lst [.tup [d, .int 1]]) := by rw [Sto.upd_ne ne]; exact h1
  have x1' : Sxb p S (S1.upd l (.lst [])) := x1.trans (Sx.new hl).b
  obtain ⟨pp, hpp⟩ := pd _ (x1'.of_new hp)
  refine eqW_nilP (rd_lst h1') (.cons (.tup (.cons hpp (.cons .int .nil))) .nil) rd_upd ?_
  simp only [List.isEmpty_cons]
  walk_at "e"
  walk_at "s"; walk_at "e"
  refine ⟨⟨_, h1'⟩, bm_pop (ds := []) h1' ?_⟩
  walk_at "r"
  have x2 : Sxb p S ((S1.upd l (.lst [])).upd p (.lst [])) := x1'.trans Sxb.put
  generalize (S1.upd l (.lst [])).upd p (.lst []) = S2 at x2 ⊢
  refine hf (n + 1) S2 _ _ (x2.of_new hp) ?_
  refine eq_fo' (t := [99, 97, 108, 108]) (j := 3) hs rfl ?_
  rw [hc]
  walk_at "e"
  walk_at "s"; walk_at "e"
  refine h.lf n S2 _ _ (x2.of_new hp) fun S3 x3 => ?_
  walk_at "r"
  exact q S3 ((x2.of_new hp).trans x3)
theorem fo_non {n : Nat} {S : Sto} {Q : QD} {E : QX} (q : Q (.tup [.str [], .int 0]) S) : (lvl prg (n + 1)).fn 2 [.non] S Q E := by
  refine ⟨rfl, ?_⟩
  unfold ir2
  walk_at "r"
  exact q
/-- is_combinators tells no -/
def Nrow (d : D) (S : Sto) : Prop := ∀ n S' (Q : QD) (E : QX), Sx S S' → (∀ S'', Sx S' S'' → Q (.bl false) S'') → (lvl prg (n + 3)).fn 7 [d] S' Q E
theorem Nrow.of {d : D} {S : Sto} (h : NoL d S) (pd : ∀ S', Sx S S' → ∃ p, PD S' d p) : Nrow d S := fun n S' Q E x q => w_isC_no (h.sx x) (fun S'' x' => pd S'' (x.trans x')) q
theorem Nrow.gd {d : D} {S : Sto} (h : NoL d S) (g : gd d = true) : Nrow d S := .of h fun S' _ => ⟨_, pd_of S' g⟩
theorem nl_non (S : Sto) : NoL .non S := NoL.of (s := []) (k := 0) rfl rfl rfl rfl fun n S' Q E x q => fo_non q
theorem nl_at (S : Sto) : NoL (.tup [sAt, .int 0]) S := NoL.of (s := [97, 116]) (k := 2) rfl rfl rfl rfl fun n S' Q E x q => w_form rfl q
theorem nl_fun {d : D} (h : gd d = true) (S : Sto) : NoL (.tup [sFn, d]) S := NoL.of (s := [102, 117, 110]) (k := 2) rfl rfl rfl rfl fun n S' Q E x q => w_form (by simp [gd, gds, h]) q
theorem nl_cm {l : List Nat} (hl : l.all (fun c => decide (c < 0x110000)) = true) (hk : (kvA.lookup l).isSome = false) (S : Sto) : NoL (.tup [sCm, .str l]) S := by
  have g : gd (.tup [sCm, .str l]) = true := by simp only [gd, gds, hl]; rfl
  refine ⟨⟨[99, 111, 109, 98], 2, rfl, rfl, fun n S' Q E x q => w_form g q⟩, fun n S' Q E x q => ?_⟩
  refine ⟨rfl, ?_⟩
  unfold ir6
  walk_at "s"; walk_at "e"
  refine w_form g ?_
  walk_at "s"; walk_at "e"
  refine eqW_of rfl rfl (by decide) ?_
  walk_at "e"
  walk_at "s"
  walk_at "e"
  rw [hk]
  exact q S' (Sx.refl S')
theorem w_crow_no {d : D} {n : Nat} {S : Sto} {Q : QD} {E : QX} (h : Nrow d S) (q : ∀ S', Sx S S' → E ⟨3, [(1, .str []), (0, sRow)]⟩ S') : (lvl prg (n + 4)).fn 8 [d] S Q E := by
  refine ⟨rfl, ?_⟩
  unfold ir8
  walk_at "s"; walk_at "e"
  refine h n S _ _ (Sx.refl S) fun S1 x1 => ?_
  walk_at "r"
  rw [lvl_xfl]
  exact ⟨rfl, q S1 x1⟩
end K42
end Mini
end L2
namespace L2
namespace Mini
namespace K42
open PySem PySem.Spec PyProof.Rows
local macro_rules | `(tactic| walk_at "s") => `(tactic| first | with_reducible refine st_set ?_ | with_reducible refine st_ife ?_ | with_reducible refine st_ret ?_ | with_reducible refine st_ex ?_ | with_reducible refine st_unp ?_ | with_reducible refine st_unpl ?_ | with_reducible refine st_unpa ?_ | with_reducible refine st_aug ?_ | with_reducible refine st_for ?_ | with_reducible refine st_whl ?_ | with_reducible refine st_nil ?_ | with_reducible refine st_setix ?_ | with_reducible refine st_raise ?_ | with_reducible refine st_try ?_ | with_reducible refine st_setat ?_ | with_reducible refine st_augat ?_ | with_reducible refine st_pass ?_ | with_reducible refine st_brk ?_ | with_reducible refine st_cnt ?_)
local macro_rules | `(tactic| walk_at "e") => `(tactic| try simp only [fget, fput, eq_self, Nat.reduceEqDiff, and_true, Int.reduceBEq, wpC, goW, List.map_cons, List.map_nil, deq, deqs, List.any_cons, List.any_nil, slW, cut_1, Int.cast_ofNat_Int, Int.natCast_zero, Int.natCast_one, Int.reduceLE, Int.reduceLT, Int.reduceNeg, Int.reduceAdd, Int.reduceSub, decide_true, decide_false, inW_chr, List.contains_cons, List.contains_nil, Bool.or_true, Bool.true_or, Bool.or_false, Bool.false_or, gd, gds, List.all_cons, List.all_nil, Nat.reduceLT, List.zip_cons_cons, List.zip_nil_left, List.foldl_cons, List.foldl_nil, wpT, wpE, wpEs, wpO, wpI, env0, Env.get, List.map, List.length, List.replicate, List.getElem?_cons_zero, List.getElem?_cons_succ, List.nil_append, List.cons_append, List.append_nil, tru, isiW, cmpW, List.set, Nat.reduceSub, Nat.reduceAdd, Bool.not_true, Bool.not_false, Bool.false_eq_true, if_true, if_false, reduceIte, ixW, biW, bmTy, augW, tgW, newW, wpPs, dmerge, sqW_t, sqW_s, binW_ai, binW_si, binW_at, binW_as, binW_mi, binW_di, binW_mo, atI_0, atI_1, atI_2, ex_some, eqW_str, eqW_int, sz0, sz1, sz2, sz3, sz4, sz5, sz6, sz7, sz8, sz9, sz10, sz11, sz12, sz13, sz14, true_and, Bool.false_xor, Bool.true_xor, lb_cc, lb_nc, lb_cn, lb_nn, Nat.reduceBEq, Bool.and_true, Bool.true_and, Bool.false_and, Bool.and_false, beq_self_eq_true, binW_ms])
local macro_rules | `(tactic| walk_at "r") => `(tactic| ((try walk_at "s"); walk_at "e"; repeat (walk_at "s"; walk_at "e")))
local macro_rules | `(tactic| walk_at "w") => `(tactic| simp only [wpSs, wpS, wpT, wpE, wpEs, wpO, wpI, env0, Env.get, List.map, List.length, List.replicate, List.getElem?_cons_zero, List.getElem?_cons_succ, List.nil_append, List.cons_append, List.append_nil, tru, isiW, cmpW, List.set, Nat.reduceSub, Nat.reduceAdd, Bool.not_true, Bool.not_false, Bool.false_eq_true, if_true, if_false, reduceIte, ixW, biW, bmTy, sqW_t, sqW_s, binW_ai, binW_si, binW_at, binW_as, binW_mi, binW_di, binW_mo, atI_0, atI_1, atI_2, ex_some, eqW_str, eqW_int, sz0, sz1, sz2, sz3, sz4, sz5, sz6, sz7, sz11, true_and, Bool.false_xor, Bool.true_xor, lb_cc, lb_nc, lb_cn, lb_nn, Nat.reduceBEq, Bool.and_true, Bool.true_and, Bool.false_and, Bool.and_false, beq_self_eq_true])
local macro_rules | `(tactic| walk_at "q") => `(tactic| refine eqW_of rfl rfl (Nat.le_of_ble_eq_true rfl) ?_)
local macro_rules | `(tactic| walk_at "g") => `(tactic| (walk_at "r"; repeat (walk_at "q"; walk_at "r")))
/-! ### the law -/
abbrev sFar : D := .str [102, 97, 114]
abbrev sTrm : D := .str [116, 101, 114, 109]
abbrev tC : List (Nat × Su) := [(4, .ret (.lit (.str [102, 97, 114]))), (2, .ret (.lit (.str [116, 101, 114, 109]))), (3, .ret (.exf 2 0))]
abbrev tK (n : Nat) (Q : QD) (E : QX) : En := { nx := fun σ' S' => wpSs (lvl prg n) (.cons (.ret (.var 3)) .nil) { nx := fun _ S' => Q .non S', rt := Q } (fun x _ S' => E x S') σ' S', rt := Q }
theorem w_callL {F : Nat} {d : D} {n : Nat} {S : Sto} {Q : QD} {E : QX} (hF : F < 38) (h : (lvl prg n).fn F [d] S Q fun x S' => tryW (lvl prg n) tC x (tK n Q E) (fun x _ S' => E x S') [some (.fn F), some d, none, none] S') : (lvl prg (n + 1)).fn 32 [.fn F, d] S Q E := by
  refine ⟨rfl, ?_⟩
  unfold ir32
  walk_at "r"
  exact ⟨by rw [lvl_nfn]; exact hF, h⟩
theorem told_far {G : Gam} {K : En} {X : EX} {S : Sto} {σ : Env} (h : G.xsub = xsub) (q : K.rt sFar S) : tryW G tC ⟨4, []⟩ K X σ S := by
  simp only [tC, tryW, h, xsub, suW, seW]
  walk_at "e"
  exact q
theorem told_trm {G : Gam} {K : En} {X : EX} {S : Sto} {σ : Env} (h : G.xsub = xsub) (q : K.rt sTrm S) : tryW G tC ⟨2, []⟩ K X σ S := by
  simp only [tC, tryW, h, xsub, suW, seW]
  walk_at "e"
  exact q
theorem told_row {G : Gam} {K : En} {X : EX} {S : Sto} {σ : Env} {a b : D} (h : G.xsub = xsub) (hl : 2 < σ.length) (q : K.rt b S) : tryW G tC ⟨3, [(1, a), (0, b)]⟩ K X σ S := by
  simp only [tC, tryW, h, xsub, suW, seW]
  walk_at "e"
  first | exact ⟨hl, q⟩ | exact q
theorem no_cm (n : Nat) (S : Sto) : NoG (.tup [sCm, .str [83]]) n S := fun p Q E S1 x0 hp _ q => by
  refine w_good_form (n := n + 2) [99, 111, 109, 98] 2 hp rfl (by omega) (fun Q E S2 _ q => w_form rfl q) fun S2 x2 h2 => ?_
  dsimp only [ir39]
  walk_at "g"
  exact q S2 x2
theorem w_comb {u : Tm} {n : Nat} {S : Sto} {Q : QD} {E : QX} (ht : Tt 28 174 u) (ho : okd u) (q : ∀ S', Sx S S' → rs (ro u) ≤ 4000 → Q (enR (ro u)) S') (e : ∀ S', Sx S S' → 4000 < rs (ro u) + 2 * fi u → Q sFar S') : (lvl prg (n + 400)).fn 32 [.fn 17, enc u] S Q E := by
  have hd := ht.d
  have hz := ht.z
  refine w_callL (n := n + 399) (by decide) ?_
  refine ⟨rfl, ?_⟩
  unfold ir17
  walk_at "r"
  refine w_check (n := n + 395) (by omega) (by omega) (by omega) ht.g ht.c fun S1 x1 => ?_
  walk_at "r"
  exact w_rop u (by omega) ht.g ho (fun S2 x2 hz => q S2 (x1.trans x2) hz) fun S2 x2 h => told_far (lvl_xsub _) (e S2 (x1.trans x2) h)
theorem w_comb_no {v : D} {n : Nat} {S : Sto} {Q : QD} {E : QX} (hv : NoG v (n + 392) S) (q : ∀ S', Sx S S' → Q sTrm S') : (lvl prg (n + 400)).fn 32 [.fn 17, v] S Q E := by
  refine w_callL (n := n + 399) (by decide) ?_
  refine ⟨rfl, ?_⟩
  unfold ir17
  walk_at "r"
  exact w_check_no hv fun S1 x1 => told_trm (lvl_xsub _) (q S1 x1)
theorem w_ltermof {r : Rw} {n : Nat} {S : Sto} {Q : QD} {E : QX} (hr : rc r = true) (hz : rs r ≤ 300) (q : ∀ S', Sx S S' → Q (enc (mnR r)) S') : (lvl prg (n + 401)).fn 32 [.fn 19, enR r] S Q E :=
  w_callL (n := n + 400) (by decide) (w_termof hr hz fun S1 x1 => q S1 x1)
theorem w_ltermof_no {d : D} {n : Nat} {S : Sto} {Q : QD} {E : QX} (h : Nrow d S) (q : ∀ S', Sx S S' → Q sRow S') : (lvl prg (n + 401)).fn 32 [.fn 19, d] S Q E := by
  refine w_callL (n := n + 400) (by decide) ?_
  refine ⟨rfl, ?_⟩
  unfold ir19
  walk_at "s"; walk_at "e"
  exact w_crow_no (n := n + 395) h fun S1 x1 => told_row (lvl_xsub _) (by simp) (q S1 x1)
theorem eqW_enR_str {r : Rw} {l : List Nat} {neg : Bool} {S : Sto} {Q : QD} (hg : rg r = true) (hl : l.all (fun c => decide (c < 0x110000)) = true) (q : Q (.bl (neg ^^ false)) S) : eqW (enR r) (.str l) neg S Q := by
  have e : deq (enR r) (.str l) = false := by cases r <;> rfl
  refine eqW_of (enR_gd r hg) (by simpa [gd] using hl) (Nat.le_trans (Nat.min_le_right _ _) (Nat.zero_le 190)) ?_
  rw [e]
  exact q
theorem body_ok {n : Nat} {t c : Addr} {v0 : D} {o2 o3 o4 o5 : Option D} {S : Sto} {K : En} {X : EX} (h : Tp t c S) (q : ∀ o3 o4 o5 S', Tp t c S' → K.nx [some v0, some (.ref t), o2, o3, o4, o5] S') :
    wpSs (lvl prg (n + 401)) (forBody ir37) K X [some v0, some (.ref t), o2, o3, o4, o5] S := by
  -- the odd ones
  have odd : ∀ o3 o4 o5 S, Tp t c S → wpSs (lvl prg (n + 401)) (dropS 6 (forBody ir37)) K X [some v0, some (.ref t), o2, o3, o4, o5] S := fun o3 o4 o5 S h => by
    dsimp only [dropS, forBody, ir37]
    walk_at "s"; walk_at "e"
    intro p hp
    have np := new_tp h hp
    refine w_pick (n := n + 399) (h.new hp) Sto.upd_same np.1 np.2 (by simp) (by simp) fun d S1 hd h1 x1 => ?_
    have bad : NoG d (n + 393) S1 := by
      simp only [List.mem_cons, List.not_mem_nil, or_false] at hd
      rcases hd with rfl | rfl | rfl | rfl
      · exact no_non _ S1
      · exact no_at _ S1
      · exact no_cm _ S1
      · exact no_fun _ S1
    refine w_comb_no (n := n + 1) bad fun S2 x2 => ?_
    walk_at "g"
    intro p2 hp2
    have np2 := new_tp (h1.sx x2) hp2
    refine w_pick (n := n + 399) ((h1.sx x2).new hp2) Sto.upd_same np2.1 np2.2 (by simp) (by simp) fun d S3 hd h3 x3 => ?_
    have bad : Nrow d S3 := by
      simp only [List.mem_cons, List.not_mem_nil, or_false] at hd
      rcases hd with rfl | rfl | rfl | rfl
      · exact .gd (nl_non S3) rfl
      · exact .gd (nl_at S3) rfl
      · exact .gd (nl_fun rfl S3) rfl
      · exact .gd (nl_cm rfl rfl S3) rfl
    refine w_ltermof_no (n := n) bad fun S4 x4 => ?_
    walk_at "g"
    exact q _ _ _ S4 (h3.sx x4)
  have tl : ∀ G K X σ S', wpSs G (forBody ir37) K X σ S' = wpSs G (.cons (.set 3 (.call 29 (.cons (.var 1) (.cons (.lit (.int 24)) .nil)))) (.cons (.set 4 (.call 35 (.cons (.var 3) .nil))) (.cons (.set 5 (.call 32 (.cons (.lit (.fn 17)) (.cons (.var 3) .nil)))) (dropS 3 (forBody ir37))))) K X σ S' := fun _ _ _ _ _ => rfl
  rw [tl]
  have mid : ∀ (u : Tm) o5 S, Tt 28 174 u → okd u → Tp t c S → wpSs (lvl prg (n + 401)) (dropS 5 (forBody ir37)) K X [some v0, some (.ref t), o2, some (enc u), some (enR (ro u)), o5] S := fun u o5 S ht ho h => by
    have tl5 : ∀ G K X σ S', wpSs G (dropS 5 (forBody ir37)) K X σ S' = wpSs G (.cons (.ife (.and (.cmp .lt (.call 30 (.cons (.var 4) .nil)) (.lit (.int 300))) (.not (.call 23 (.cons (.call 32 (.cons (.lit (.fn 19)) (.cons (.var 4) .nil))) (.cons (.call 36 (.cons (.var 4) .nil)) .nil))))) (.cons (.ret (.lit (.bl false))) .nil) .nil) (dropS 6 (forBody ir37))) K X σ S' := fun _ _ _ _ _ => rfl
    rw [tl5]
    generalize hA : dropS 6 (forBody ir37) = A at odd ⊢
    obtain ⟨o1, o2'⟩ := okd_rp ho
    have gr : rg (ro u) = true := by rw [ro_rg]; exact ht.g
    have cr : rc (ro u) = true := rc_of gr (ro_cR ht.c)
    walk_at "s"; walk_at "e"
    refine w_sizeR (n := n + 400) gr (by omega) fun S1 x1 => ?_
    walk_at "e"
    by_cases hs : rs (ro u) < 300
    · rw [decide_eq_true (show (rs (ro u) : Int) < 300 by omega)]
      walk_at "e"
      refine w_ltermof (n := n) cr (by omega) fun S2 x2 => ?_
      refine w_fmeant (ro u) (by omega) fun S3 x3 => ?_
      have d1 := mnR_dp (ro u)
      have d2 := rp_rs (ro u)
      refine w_same (by have := enc_dd (mnR (ro u)); omega) (enc_pl _ (mnR_good gr)) fun S4 x4 => ?_
      walk_at "e"
      walk_at "s"
      exact odd _ _ _ S4 ((((h.sx x1).sx x2).sx x3).sx x4)
    · rw [decide_eq_false (show ¬ (rs (ro u) : Int) < 300 by omega)]
      walk_at "e"
      walk_at "s"
      exact odd _ _ _ S1 (h.sx x1)
  generalize hB : dropS 5 (forBody ir37) = B at mid
  have tl3 : ∀ G K X σ S', wpSs G (dropS 3 (forBody ir37)) K X σ S' = wpSs G (.cons (.ife (.and (.cmp .ne (.var 5) (.lit (.str [102, 97, 114]))) (.not (.and (.call 23 (.cons (.var 5) (.cons (.var 4) .nil))) (.call 7 (.cons (.var 5) .nil))))) (.cons (.ret (.lit (.bl false))) .nil) .nil) (.cons (.ife (.and (.cmp .eq (.var 5) (.lit (.str [102, 97, 114]))) (.cmp .lt (.call 30 (.cons (.var 4) .nil)) (.lit (.int 1000)))) (.cons (.ret (.lit (.bl false))) .nil) .nil) B)) K X σ S' := fun _ _ _ _ _ => by subst hB; rfl
  walk_at "s"; walk_at "e"
  refine w_termR (n := n + 401) h (by omega) fun u S1 ht ho h1 _ => ?_
  obtain ⟨o1, o2'⟩ := okd_rp ho
  have gr : rg (ro u) = true := by rw [ro_rg]; exact ht.g
  have cr : rc (ro u) = true := rc_of gr (ro_cR ht.c)
  have hd := ht.d
  have hz := ht.z
  walk_at "s"; walk_at "e"
  refine w_fmade u (by omega) ht.g ho fun S2 x2 => ?_
  walk_at "s"; walk_at "e"
  refine w_comb (n := n + 1) ht ho (fun S3 x3 hr => ?_) fun S3 x3 hr => ?_
  · rw [tl3]
    have h3 := (h1.sx x2).sx x3
    walk_at "s"; walk_at "e"
    refine eqW_enR_str gr rfl ?_
    walk_at "e"
    refine w_same (by have := enR_dd (ro u); omega) (enR_pl _ gr) fun S4 x4 => ?_
    walk_at "e"
    refine w_isR (n := n + 398) cr hr (by omega) fun S5 x5 => ?_
    walk_at "e"
    walk_at "s"
    walk_at "s"; walk_at "e"
    refine eqW_enR_str gr rfl ?_
    walk_at "e"
    walk_at "s"
    exact mid u _ S5 ht ho ((h3.sx x4).sx x5)
  · rw [tl3]
    have h3 := (h1.sx x2).sx x3
    have f1 := fi_lt u
    walk_at "r"
    refine w_sizeR (n := n + 400) gr (by omega) fun S4 x4 => ?_
    walk_at "e"
    rw [decide_eq_false (show ¬ (rs (ro u) : Int) < 1000 by omega)]
    walk_at "e"
    walk_at "s"
    exact mid u _ S4 ht ho (h3.sx x4)
theorem turns {n : Nat} {t c : Addr} {v0 : D} {K : En} {X : EX} (q : ∀ o2 o3 o4 o5 S', Tp t c S' → K.nx [some v0, some (.ref t), o2, o3, o4, o5] S') : ∀ (ds : List D) (o2 o3 o4 o5 : Option D) (S : Sto), Tp t c S →
    forW (fun _ => True) (.nm 2) (fun K σ S => wpSs (lvl prg (n + 401)) (forBody ir37) K X σ S) K ds [some v0, some (.ref t), o2, o3, o4, o5] S
  | [], o2, o3, o4, o5, S, h => ⟨True.intro, q _ _ _ _ S h⟩
  | d :: ds, o2, o3, o4, o5, S, h => forW_step True.intro rfl fun K' knx _ _ _ => body_ok h fun o3 o4 o5 S' h' => knx _ _ (turns q ds _ o3 o4 o5 S' h')
theorem pure_law : ∀ (S : Sto) (a : Addr) (ns : List Int), ns.length ≤ 63 → rd S a = some (ns.map D.int) → (lvl prg 680).fn 37 [.ref a] S (fun d _ => d = .bl true) (fun _ _ => False) := by
  intro S a ns hl h
  show (lvl prg (278 + 401 + 1)).fn 37 [.ref a] S (fun d _ => d = .bl true) (fun _ _ => False)
  refine ⟨rfl, ?_⟩
  unfold ir37
  walk_at "s"; walk_at "e"
  refine w_tape (n := 678) h hl fun t c S1 h1 x1 => ?_
  walk_at "s"; walk_at "e"
  refine ⟨by decide, by decide, ?_⟩
  refine turns (n := 278) (fun o2 o3 o4 o5 S2 h2 => ?_) _ _ _ _ _ S1 h1
  dsimp only
  walk_at "r"
end K42
end Mini
end L2
namespace L2
namespace Mini
namespace K42
open PySem PySem.Spec PyProof.Rows
theorem mn_fld0 : ∀ f, f < 3 → fld f ≠ mn 0 := by decide +kernel
theorem mn_fld1 : ∀ f, f < 3 → fld f ≠ mn 1 := by decide +kernel
end K42
end Mini
end L2
namespace L2
namespace Mini
namespace K42
open PySem PySem.Spec PyProof.Rows
set_option maxHeartbeats 0 in
theorem all_mk {P : Program} {w : World} {K : PySem.W.Frag} {h : Heap} {mg : Str → Option Value} {fl : Addr} (X : K.In h) (G : h.Ns mainGlobals mg) (hfa : mg "law" = some (.ref fl))
    (pure : ∀ (S : Sto) (a : Addr) (ns : List Int), ns.length ≤ 63 → rd S a = some (ns.map D.int) → (lvl prg 680).fn 37 [.ref a] S (fun d _ => d = .bl true) (fun _ _ => False))
    {f0 f1 f2 f3 f4 f5 f6 f7 f8 f9 f10 f11 f12 f13 f14 f15 f16 f17 f18 f19 f20 f21 f22 f23 f24 f25 f26 f27 f28 f29 f30 f31 f32 f33 f34 f35 f36 f37 f38 f39 C0 C1 C2 C3 C4 g3 kd0 t5 t9 : Addr}
    {od0 an0 : Option Addr} {sl0 : Array (Option Value)} {oc0 kV0 dc0 pm0 cd0 ct0 : Value}
    {od1 an1 : Option Addr} {sl1 : Array (Option Value)} {oc1 kV1 dc1 pm1 cd1 ct1 : Value}
    {od2 an2 : Option Addr} {sl2 : Array (Option Value)} {oc2 kV2 dc2 pm2 cd2 ct2 : Value}
    {od3 an3 : Option Addr} {sl3 : Array (Option Value)} {oc3 kV3 dc3 pm3 cd3 ct3 : Value}
    {od4 an4 : Option Addr} {sl4 : Array (Option Value)} {oc4 kV4 dc4 pm4 cd4 ct4 : Value}
    {od5 an5 : Option Addr} {sl5 : Array (Option Value)} {oc5 kV5 dc5 pm5 cd5 ct5 : Value}
    {od6 an6 : Option Addr} {sl6 : Array (Option Value)} {oc6 kV6 dc6 pm6 cd6 ct6 : Value}
    {od7 an7 : Option Addr} {sl7 : Array (Option Value)} {oc7 kV7 dc7 pm7 cd7 ct7 : Value}
    {od8 an8 : Option Addr} {sl8 : Array (Option Value)} {oc8 kV8 dc8 pm8 cd8 ct8 : Value}
    {od9 an9 : Option Addr} {sl9 : Array (Option Value)} {oc9 kV9 dc9 pm9 cd9 ct9 : Value}
    {od10 an10 : Option Addr} {sl10 : Array (Option Value)} {oc10 kV10 dc10 pm10 cd10 ct10 : Value}
    {od11 an11 : Option Addr} {sl11 : Array (Option Value)} {oc11 kV11 dc11 pm11 cd11 ct11 : Value}
    {od12 an12 : Option Addr} {sl12 : Array (Option Value)} {oc12 kV12 dc12 pm12 cd12 ct12 : Value}
    {od13 an13 : Option Addr} {sl13 : Array (Option Value)} {oc13 kV13 dc13 pm13 cd13 ct13 : Value}
    {od14 an14 : Option Addr} {sl14 : Array (Option Value)} {oc14 kV14 dc14 pm14 cd14 ct14 : Value}
    {od15 an15 : Option Addr} {sl15 : Array (Option Value)} {oc15 kV15 dc15 pm15 cd15 ct15 : Value}
    {od16 an16 : Option Addr} {sl16 : Array (Option Value)} {oc16 kV16 dc16 pm16 cd16 ct16 : Value}
    {od17 an17 : Option Addr} {sl17 : Array (Option Value)} {oc17 kV17 dc17 pm17 cd17 ct17 : Value}
    {od18 an18 : Option Addr} {sl18 : Array (Option Value)} {oc18 kV18 dc18 pm18 cd18 ct18 : Value}
    {od19 an19 : Option Addr} {sl19 : Array (Option Value)} {oc19 kV19 dc19 pm19 cd19 ct19 : Value}
    {od20 an20 : Option Addr} {sl20 : Array (Option Value)} {oc20 kV20 dc20 pm20 cd20 ct20 : Value}
    {od21 an21 : Option Addr} {sl21 : Array (Option Value)} {oc21 kV21 dc21 pm21 cd21 ct21 : Value}
    {od22 an22 : Option Addr} {sl22 : Array (Option Value)} {oc22 kV22 dc22 pm22 cd22 ct22 : Value}
    {od23 an23 : Option Addr} {sl23 : Array (Option Value)} {oc23 kV23 dc23 pm23 cd23 ct23 : Value}
    {od24 an24 : Option Addr} {sl24 : Array (Option Value)} {oc24 kV24 dc24 pm24 cd24 ct24 : Value}
    {od25 an25 : Option Addr} {sl25 : Array (Option Value)} {oc25 kV25 dc25 pm25 cd25 ct25 : Value}
    {od26 an26 : Option Addr} {sl26 : Array (Option Value)} {oc26 kV26 dc26 pm26 cd26 ct26 : Value}
    {od27 an27 : Option Addr} {sl27 : Array (Option Value)} {oc27 kV27 dc27 pm27 cd27 ct27 : Value}
    {od28 an28 : Option Addr} {sl28 : Array (Option Value)} {oc28 kV28 dc28 pm28 cd28 ct28 : Value}
    {od29 an29 : Option Addr} {sl29 : Array (Option Value)} {oc29 kV29 dc29 pm29 cd29 ct29 : Value}
    {od30 an30 : Option Addr} {sl30 : Array (Option Value)} {oc30 kV30 dc30 pm30 cd30 ct30 : Value}
    {od31 an31 : Option Addr} {sl31 : Array (Option Value)} {oc31 kV31 dc31 pm31 cd31 ct31 : Value}
    {od32 an32 : Option Addr} {sl32 : Array (Option Value)} {oc32 kV32 dc32 pm32 cd32 ct32 : Value}
    {od33 an33 : Option Addr} {sl33 : Array (Option Value)} {oc33 kV33 dc33 pm33 cd33 ct33 : Value}
    {od34 an34 : Option Addr} {sl34 : Array (Option Value)} {oc34 kV34 dc34 pm34 cd34 ct34 : Value}
    {od35 an35 : Option Addr} {sl35 : Array (Option Value)} {oc35 kV35 dc35 pm35 cd35 ct35 : Value}
    {od36 an36 : Option Addr} {sl36 : Array (Option Value)} {oc36 kV36 dc36 pm36 cd36 ct36 : Value}
    {od37 an37 : Option Addr} {sl37 : Array (Option Value)} {oc37 kV37 dc37 pm37 cd37 ct37 : Value}
    {od38 an38 : Option Addr} {sl38 : Array (Option Value)} {oc38 kV38 dc38 pm38 cd38 ct38 : Value}
    {od39 an39 : Option Addr} {sl39 : Array (Option Value)} {oc39 kV39 dc39 pm39 cd39 ct39 : Value}
    {nm3 qn3 : Str} {N3 : Addr} {bs3 bm3 : List Value} {sn3 : List Str} {sb3 : List Value} {ab3 : Bool} {co3 : Option Bool} {dd3 : Option Addr} {m03 m13 m23 m33 m53 : Option Value}
    {odx3 anx3 : Option Addr} {slx3 : Array (Option Value)} {ocx3 kVx3 dcx3 pmx3 cdx3 ctx3 : Value}
    {kt0_0 ku0_0 : Tok} {kh0_0 : Int}
    {kt0_1 ku0_1 : Tok} {kh0_1 : Int}
    {kt0_2 ku0_2 : Tok} {kh0_2 : Int}
    {kt0_3 ku0_3 : Tok} {kh0_3 : Int}
    {kt0_4 ku0_4 : Tok} {kh0_4 : Int}
    {kn0 : Nat}
    {tk0 : Tok}
    {tk1 : Tok}
    {tk2 : Tok}
    {tk3 : Tok}
    {tk4 : Tok}
    {tk5_0 : Tok}
    {tk5_1 : Tok}
    {dt5 : Option Addr} {nt5 : Nat} {st5 : Array (Option Value)}
    {tk6 : Tok}
    {tk7 : Tok}
    {tk9_0 : Tok}
    {tk9_1 : Tok}
    {dt9 : Option Addr} {nt9 : Nat} {st9 : Array (Option Value)}
    (aC0 : PySem.W.nsIn K mainGlobals "Form" = some (some (.ref C0)))
    (kC0 : PySem.W.keepIn K (.ref C0) = true)
    (aC1 : PySem.W.nsIn K mainGlobals "TermError" = some (some (.ref C1)))
    (kC1 : PySem.W.keepIn K (.ref C1) = true)
    (aC2 : PySem.W.nsIn K mainGlobals "BadTerm" = some (some (.ref C2)))
    (kC2 : PySem.W.keepIn K (.ref C2) = true)
    (aC3 : PySem.W.nsIn K mainGlobals "BadKind" = some (some (.ref C3)))
    (kC3 : PySem.W.keepIn K (.ref C3) = true)
    (aC4 : PySem.W.nsIn K mainGlobals "TooFar" = some (some (.ref C4)))
    (kC4 : PySem.W.keepIn K (.ref C4) = true)
    (a0_38 : PySem.W.findIn K (.ref C0) "__init__" = some (some (.ref f38)))
    (a0_39 : PySem.W.findIn K (.ref C0) "is_good" = some (some (.ref f39)))
    (a0 : PySem.W.nsIn K mainGlobals "is_integer" = some (some (.ref f0)))
    (l0 : K.lookup f0 = some ⟨oc0, od0, .func (PySem.W.fnOf "is_integer" "is_integer" (defArgs s0) (defBody s0) (defScope s0) .none kV0 dc0 pm0 an0 cd0 ct0), sl0⟩)
    (c0 : PySem.W.codeIn K cd0 "is_integer" = true)
    (k0 : PySem.W.keepIn K (.ref f0) = true)
    (a1 : PySem.W.nsIn K mainGlobals "is_name" = some (some (.ref f1)))
    (l1 : K.lookup f1 = some ⟨oc1, od1, .func (PySem.W.fnOf "is_name" "is_name" (defArgs s1) (defBody s1) (defScope s1) .none kV1 dc1 pm1 an1 cd1 ct1), sl1⟩)
    (c1 : PySem.W.codeIn K cd1 "is_name" = true)
    (k1 : PySem.W.keepIn K (.ref f1) = true)
    (a2 : PySem.W.nsIn K mainGlobals "form_of" = some (some (.ref f2)))
    (l2 : K.lookup f2 = some ⟨oc2, od2, .func (PySem.W.fnOf "form_of" "form_of" (defArgs s2) (defBody s2) (defScope s2) .none kV2 dc2 pm2 an2 cd2 ct2), sl2⟩)
    (c2 : PySem.W.codeIn K cd2 "form_of" = true)
    (k2 : PySem.W.keepIn K (.ref f2) = true)
    (a3 : PySem.W.nsIn K mainGlobals "is_term" = some (some (.ref f3)))
    (l3 : K.lookup f3 = some ⟨oc3, od3, .func (PySem.W.fnOf "is_term" "is_term" (defArgs s3) (defBody s3) (defScope s3) .none kV3 dc3 pm3 an3 cd3 ct3), sl3⟩)
    (c3 : PySem.W.codeIn K cd3 "is_term" = true)
    (k3 : PySem.W.keepIn K (.ref f3) = true)
    (a4 : PySem.W.nsIn K mainGlobals "check_term" = some (some (.ref f4)))
    (l4 : K.lookup f4 = some ⟨oc4, od4, .func (PySem.W.fnOf "check_term" "check_term" (defArgs s4) (defBody s4) (defScope s4) .none kV4 dc4 pm4 an4 cd4 ct4), sl4⟩)
    (c4 : PySem.W.codeIn K cd4 "check_term" = true)
    (k4 : PySem.W.keepIn K (.ref f4) = true)
    (a5 : PySem.W.nsIn K mainGlobals "made" = some (some (.ref f5)))
    (l5 : K.lookup f5 = some ⟨oc5, od5, .func (PySem.W.fnOf "made" "made" (defArgs s5) (defBody s5) (defScope s5) .none kV5 dc5 pm5 an5 cd5 ct5), sl5⟩)
    (c5 : PySem.W.codeIn K cd5 "made" = true)
    (k5 : PySem.W.keepIn K (.ref f5) = true)
    (a6 : PySem.W.nsIn K mainGlobals "is_leaf" = some (some (.ref f6)))
    (l6 : K.lookup f6 = some ⟨oc6, od6, .func (PySem.W.fnOf "is_leaf" "is_leaf" (defArgs s6) (defBody s6) (defScope s6) .none kV6 dc6 pm6 an6 cd6 ct6), sl6⟩)
    (c6 : PySem.W.codeIn K cd6 "is_leaf" = true)
    (k6 : PySem.W.keepIn K (.ref f6) = true)
    (a7 : PySem.W.nsIn K mainGlobals "is_combinators" = some (some (.ref f7)))
    (l7 : K.lookup f7 = some ⟨oc7, od7, .func (PySem.W.fnOf "is_combinators" "is_combinators" (defArgs s7) (defBody s7) (defScope s7) .none kV7 dc7 pm7 an7 cd7 ct7), sl7⟩)
    (c7 : PySem.W.codeIn K cd7 "is_combinators" = true)
    (k7 : PySem.W.keepIn K (.ref f7) = true)
    (a8 : PySem.W.nsIn K mainGlobals "check_row" = some (some (.ref f8)))
    (l8 : K.lookup f8 = some ⟨oc8, od8, .func (PySem.W.fnOf "check_row" "check_row" (defArgs s8) (defBody s8) (defScope s8) .none kV8 dc8 pm8 an8 cd8 ct8), sl8⟩)
    (c8 : PySem.W.codeIn K cd8 "check_row" = true)
    (k8 : PySem.W.keepIn K (.ref f8) = true)
    (a9 : PySem.W.nsIn K mainGlobals "call" = some (some (.ref f9)))
    (l9 : K.lookup f9 = some ⟨oc9, od9, .func (PySem.W.fnOf "call" "call" (defArgs s9) (defBody s9) (defScope s9) .none kV9 dc9 pm9 an9 cd9 ct9), sl9⟩)
    (c9 : PySem.W.codeIn K cd9 "call" = true)
    (k9 : PySem.W.keepIn K (.ref f9) = true)
    (a10 : PySem.W.nsIn K mainGlobals "at" = some (some (.ref f10)))
    (l10 : K.lookup f10 = some ⟨oc10, od10, .func (PySem.W.fnOf "at" "at" (defArgs s10) (defBody s10) (defScope s10) .none kV10 dc10 pm10 an10 cd10 ct10), sl10⟩)
    (c10 : PySem.W.codeIn K cd10 "at" = true)
    (k10 : PySem.W.keepIn K (.ref f10) = true)
    (a11 : PySem.W.nsIn K mainGlobals "functions" = some (some (.ref f11)))
    (l11 : K.lookup f11 = some ⟨oc11, od11, .func (PySem.W.fnOf "functions" "functions" (defArgs s11) (defBody s11) (defScope s11) .none kV11 dc11 pm11 an11 cd11 ct11), sl11⟩)
    (c11 : PySem.W.codeIn K cd11 "functions" = true)
    (k11 : PySem.W.keepIn K (.ref f11) = true)
    (a12 : PySem.W.nsIn K mainGlobals "meanings" = some (some (.ref f12)))
    (l12 : K.lookup f12 = some ⟨oc12, od12, .func (PySem.W.fnOf "meanings" "meanings" (defArgs s12) (defBody s12) (defScope s12) .none kV12 dc12 pm12 an12 cd12 ct12), sl12⟩)
    (c12 : PySem.W.codeIn K cd12 "meanings" = true)
    (k12 : PySem.W.keepIn K (.ref f12) = true)
    (a13 : PySem.W.nsIn K mainGlobals "has_first" = some (some (.ref f13)))
    (l13 : K.lookup f13 = some ⟨oc13, od13, .func (PySem.W.fnOf "has_first" "has_first" (defArgs s13) (defBody s13) (defScope s13) .none kV13 dc13 pm13 an13 cd13 ct13), sl13⟩)
    (c13 : PySem.W.codeIn K cd13 "has_first" = true)
    (k13 : PySem.W.keepIn K (.ref f13) = true)
    (a14 : PySem.W.nsIn K mainGlobals "lowered" = some (some (.ref f14)))
    (l14 : K.lookup f14 = some ⟨oc14, od14, .func (PySem.W.fnOf "lowered" "lowered" (defArgs s14) (defBody s14) (defScope s14) .none kV14 dc14 pm14 an14 cd14 ct14), sl14⟩)
    (c14 : PySem.W.codeIn K cd14 "lowered" = true)
    (k14 : PySem.W.keepIn K (.ref f14) = true)
    (a15 : PySem.W.nsIn K mainGlobals "without" = some (some (.ref f15)))
    (l15 : K.lookup f15 = some ⟨oc15, od15, .func (PySem.W.fnOf "without" "without" (defArgs s15) (defBody s15) (defScope s15) .none kV15 dc15 pm15 an15 cd15 ct15), sl15⟩)
    (c15 : PySem.W.codeIn K cd15 "without" = true)
    (k15 : PySem.W.keepIn K (.ref f15) = true)
    (a16 : PySem.W.nsIn K mainGlobals "row_of_part" = some (some (.ref f16)))
    (l16 : K.lookup f16 = some ⟨oc16, od16, .func (PySem.W.fnOf "row_of_part" "row_of_part" (defArgs s16) (defBody s16) (defScope s16) .none kV16 dc16 pm16 an16 cd16 ct16), sl16⟩)
    (c16 : PySem.W.codeIn K cd16 "row_of_part" = true)
    (k16 : PySem.W.keepIn K (.ref f16) = true)
    (a17 : PySem.W.nsIn K mainGlobals "combinators_of" = some (some (.ref f17)))
    (l17 : K.lookup f17 = some ⟨oc17, od17, .func (PySem.W.fnOf "combinators_of" "combinators_of" (defArgs s17) (defBody s17) (defScope s17) .none kV17 dc17 pm17 an17 cd17 ct17), sl17⟩)
    (c17 : PySem.W.codeIn K cd17 "combinators_of" = true)
    (k17 : PySem.W.keepIn K (.ref f17) = true)
    (a18 : PySem.W.nsIn K mainGlobals "meant" = some (some (.ref f18)))
    (l18 : K.lookup f18 = some ⟨oc18, od18, .func (PySem.W.fnOf "meant" "meant" (defArgs s18) (defBody s18) (defScope s18) .none kV18 dc18 pm18 an18 cd18 ct18), sl18⟩)
    (c18 : PySem.W.codeIn K cd18 "meant" = true)
    (k18 : PySem.W.keepIn K (.ref f18) = true)
    (a19 : PySem.W.nsIn K mainGlobals "term_of" = some (some (.ref f19)))
    (l19 : K.lookup f19 = some ⟨oc19, od19, .func (PySem.W.fnOf "term_of" "term_of" (defArgs s19) (defBody s19) (defScope s19) .none kV19 dc19 pm19 an19 cd19 ct19), sl19⟩)
    (c19 : PySem.W.codeIn K cd19 "term_of" = true)
    (k19 : PySem.W.keepIn K (.ref f19) = true)
    (a20 : PySem.W.nsIn K mainGlobals "_law_tape" = some (some (.ref f20)))
    (l20 : K.lookup f20 = some ⟨oc20, od20, .func (PySem.W.fnOf "_law_tape" "_law_tape" (defArgs s20) (defBody s20) (defScope s20) .none kV20 dc20 pm20 an20 cd20 ct20), sl20⟩)
    (c20 : PySem.W.codeIn K cd20 "_law_tape" = true)
    (k20 : PySem.W.keepIn K (.ref f20) = true)
    (a21 : PySem.W.nsIn K mainGlobals "_law_draw" = some (some (.ref f21)))
    (l21 : K.lookup f21 = some ⟨oc21, od21, .func (PySem.W.fnOf "_law_draw" "_law_draw" (defArgs s21) (defBody s21) (defScope s21) .none kV21 dc21 pm21 an21 cd21 ct21), sl21⟩)
    (c21 : PySem.W.codeIn K cd21 "_law_draw" = true)
    (k21 : PySem.W.keepIn K (.ref f21) = true)
    (a22 : PySem.W.nsIn K mainGlobals "_law_pick" = some (some (.ref f22)))
    (l22 : K.lookup f22 = some ⟨oc22, od22, .func (PySem.W.fnOf "_law_pick" "_law_pick" (defArgs s22) (defBody s22) (defScope s22) .none kV22 dc22 pm22 an22 cd22 ct22), sl22⟩)
    (c22 : PySem.W.codeIn K cd22 "_law_pick" = true)
    (k22 : PySem.W.keepIn K (.ref f22) = true)
    (a23 : PySem.W.nsIn K mainGlobals "_law_same" = some (some (.ref f23)))
    (l23 : K.lookup f23 = some ⟨oc23, od23, .func (PySem.W.fnOf "_law_same" "_law_same" (defArgs s23) (defBody s23) (defScope s23) .none kV23 dc23 pm23 an23 cd23 ct23), sl23⟩)
    (c23 : PySem.W.codeIn K cd23 "_law_same" = true)
    (k23 : PySem.W.keepIn K (.ref f23) = true)
    (a24 : PySem.W.nsIn K mainGlobals "_law_part" = some (some (.ref f24)))
    (l24 : K.lookup f24 = some ⟨oc24, od24, .func (PySem.W.fnOf "_law_part" "_law_part" (defArgs s24) (defBody s24) (defScope s24) .none kV24 dc24 pm24 an24 cd24 ct24), sl24⟩)
    (c24 : PySem.W.codeIn K cd24 "_law_part" = true)
    (k24 : PySem.W.keepIn K (.ref f24) = true)
    (a25 : PySem.W.nsIn K mainGlobals "_law_funs" = some (some (.ref f25)))
    (l25 : K.lookup f25 = some ⟨oc25, od25, .func (PySem.W.fnOf "_law_funs" "_law_funs" (defArgs s25) (defBody s25) (defScope s25) .none kV25 dc25 pm25 an25 cd25 ct25), sl25⟩)
    (c25 : PySem.W.codeIn K cd25 "_law_funs" = true)
    (k25 : PySem.W.keepIn K (.ref f25) = true)
    (a26 : PySem.W.nsIn K mainGlobals "_law_calls" = some (some (.ref f26)))
    (l26 : K.lookup f26 = some ⟨oc26, od26, .func (PySem.W.fnOf "_law_calls" "_law_calls" (defArgs s26) (defBody s26) (defScope s26) .none kV26 dc26 pm26 an26 cd26 ct26), sl26⟩)
    (c26 : PySem.W.codeIn K cd26 "_law_calls" = true)
    (k26 : PySem.W.keepIn K (.ref f26) = true)
    (a27 : PySem.W.nsIn K mainGlobals "_law_number" = some (some (.ref f27)))
    (l27 : K.lookup f27 = some ⟨oc27, od27, .func (PySem.W.fnOf "_law_number" "_law_number" (defArgs s27) (defBody s27) (defScope s27) .none kV27 dc27 pm27 an27 cd27 ct27), sl27⟩)
    (c27 : PySem.W.codeIn K cd27 "_law_number" = true)
    (k27 : PySem.W.keepIn K (.ref f27) = true)
    (a28 : PySem.W.nsIn K mainGlobals "_law_known" = some (some (.ref f28)))
    (l28 : K.lookup f28 = some ⟨oc28, od28, .func (PySem.W.fnOf "_law_known" "_law_known" (defArgs s28) (defBody s28) (defScope s28) .none kV28 dc28 pm28 an28 cd28 ct28), sl28⟩)
    (c28 : PySem.W.codeIn K cd28 "_law_known" = true)
    (k28 : PySem.W.keepIn K (.ref f28) = true)
    (a29 : PySem.W.nsIn K mainGlobals "_law_term" = some (some (.ref f29)))
    (l29 : K.lookup f29 = some ⟨oc29, od29, .func (PySem.W.fnOf "_law_term" "_law_term" (defArgs s29) (defBody s29) (defScope s29) .none kV29 dc29 pm29 an29 cd29 ct29), sl29⟩)
    (c29 : PySem.W.codeIn K cd29 "_law_term" = true)
    (k29 : PySem.W.keepIn K (.ref f29) = true)
    (a30 : PySem.W.nsIn K mainGlobals "_law_size" = some (some (.ref f30)))
    (l30 : K.lookup f30 = some ⟨oc30, od30, .func (PySem.W.fnOf "_law_size" "_law_size" (defArgs s30) (defBody s30) (defScope s30) .none kV30 dc30 pm30 an30 cd30 ct30), sl30⟩)
    (c30 : PySem.W.codeIn K cd30 "_law_size" = true)
    (k30 : PySem.W.keepIn K (.ref f30) = true)
    (a31 : PySem.W.nsIn K mainGlobals "_law_has" = some (some (.ref f31)))
    (l31 : K.lookup f31 = some ⟨oc31, od31, .func (PySem.W.fnOf "_law_has" "_law_has" (defArgs s31) (defBody s31) (defScope s31) .none kV31 dc31 pm31 an31 cd31 ct31), sl31⟩)
    (c31 : PySem.W.codeIn K cd31 "_law_has" = true)
    (k31 : PySem.W.keepIn K (.ref f31) = true)
    (a32 : PySem.W.nsIn K mainGlobals "_law_call" = some (some (.ref f32)))
    (l32 : K.lookup f32 = some ⟨oc32, od32, .func (PySem.W.fnOf "_law_call" "_law_call" (defArgs s32) (defBody s32) (defScope s32) .none kV32 dc32 pm32 an32 cd32 ct32), sl32⟩)
    (c32 : PySem.W.codeIn K cd32 "_law_call" = true)
    (k32 : PySem.W.keepIn K (.ref f32) = true)
    (a33 : PySem.W.nsIn K mainGlobals "_law_lower" = some (some (.ref f33)))
    (l33 : K.lookup f33 = some ⟨oc33, od33, .func (PySem.W.fnOf "_law_lower" "_law_lower" (defArgs s33) (defBody s33) (defScope s33) .none kV33 dc33 pm33 an33 cd33 ct33), sl33⟩)
    (c33 : PySem.W.codeIn K cd33 "_law_lower" = true)
    (k33 : PySem.W.keepIn K (.ref f33) = true)
    (a34 : PySem.W.nsIn K mainGlobals "_law_without" = some (some (.ref f34)))
    (l34 : K.lookup f34 = some ⟨oc34, od34, .func (PySem.W.fnOf "_law_without" "_law_without" (defArgs s34) (defBody s34) (defScope s34) .none kV34 dc34 pm34 an34 cd34 ct34), sl34⟩)
    (c34 : PySem.W.codeIn K cd34 "_law_without" = true)
    (k34 : PySem.W.keepIn K (.ref f34) = true)
    (a35 : PySem.W.nsIn K mainGlobals "_law_made" = some (some (.ref f35)))
    (l35 : K.lookup f35 = some ⟨oc35, od35, .func (PySem.W.fnOf "_law_made" "_law_made" (defArgs s35) (defBody s35) (defScope s35) .none kV35 dc35 pm35 an35 cd35 ct35), sl35⟩)
    (c35 : PySem.W.codeIn K cd35 "_law_made" = true)
    (k35 : PySem.W.keepIn K (.ref f35) = true)
    (a36 : PySem.W.nsIn K mainGlobals "_law_meant" = some (some (.ref f36)))
    (l36 : K.lookup f36 = some ⟨oc36, od36, .func (PySem.W.fnOf "_law_meant" "_law_meant" (defArgs s36) (defBody s36) (defScope s36) .none kV36 dc36 pm36 an36 cd36 ct36), sl36⟩)
    (c36 : PySem.W.codeIn K cd36 "_law_meant" = true)
    (k36 : PySem.W.keepIn K (.ref f36) = true)
    (a37 : PySem.W.nsIn K mainGlobals "law" = some (some (.ref f37)))
    (l37 : K.lookup f37 = some ⟨oc37, od37, .func (PySem.W.fnOf "law" "law" (defArgs s37) (defBody s37) (defScope s37) .none kV37 dc37 pm37 an37 cd37 ct37), sl37⟩)
    (c37 : PySem.W.codeIn K cd37 "law" = true)
    (k37 : PySem.W.keepIn K (.ref f37) = true)
    (i38 : PySem.W.isFn K (.ref f38) = true)
    (l38 : K.lookup f38 = some ⟨oc38, od38, .func (PySem.W.fnOf "__init__" "Form.__init__" (defArgs s38) (defBody s38) (defScope s38) .none kV38 dc38 pm38 an38 cd38 ct38), sl38⟩)
    (c38 : PySem.W.codeIn K cd38 "Form.__init__" = true)
    (k38 : PySem.W.keepIn K (.ref f38) = true)
    (i39 : PySem.W.isFn K (.ref f39) = true)
    (l39 : K.lookup f39 = some ⟨oc39, od39, .func (PySem.W.fnOf "is_good" "Form.is_good" (defArgs s39) (defBody s39) (defScope s39) .none kV39 dc39 pm39 an39 cd39 ct39), sl39⟩)
    (c39 : PySem.W.codeIn K cd39 "Form.is_good" = true)
    (k39 : PySem.W.keepIn K (.ref f39) = true)
    (pg0 : PySem.W.plainGet K C0 Str.empty = true)
    (hd0 : PySem.W.hasDictIn K C0 = true)
    (po0 : PySem.W.plainOver K C0 = true)
    (sa0 : PySem.W.findIn K (.ref C0) "__setattr__" = some (some (.builtin "object.__setattr__")))
    (mk0 : PySem.W.makesIn K C0 = true)
    (n0_0 : PySem.W.findIn K (.ref C0) "kind" = some none)
    (n0_1 : PySem.W.findIn K (.ref C0) "name" = some none)
    (n0_2 : PySem.W.findIn K (.ref C0) "_many" = some none)
    (q1 : PySem.W.excIn K C1 [.type "ValueError", .type "Exception", .type "BaseException", .type "object"] "ValueError.__new__" = true)
    (ex1 : PySem.W.subIn K (.ref C1) (.type "BaseException") = some true)
    (ty1 : PySem.W.typeIn K (.ref C1) = some (.type "type"))
    (ic1 : PySem.W.isClsIn K C1 = true)
    (su1_1 : PySem.W.subIn K (.ref C1) (.ref C1) = some true)
    (su1_2 : PySem.W.subIn K (.ref C1) (.ref C2) = some false)
    (su1_3 : PySem.W.subIn K (.ref C1) (.ref C3) = some false)
    (su1_4 : PySem.W.subIn K (.ref C1) (.ref C4) = some false)
    (ga1 : PySem.W.findIn K (.ref C1) "__getattribute__" = some (some (.builtin "BaseException.__getattribute__")))
    (gg1 : PySem.W.findIn K (.ref C1) "__getattr__" = some none)
    (xd1 : PySem.W.hasDictIn K C1 = true)
    (xn1_0 : PySem.W.findIn K (.ref C1) "kind" = some none)
    (xn1_1 : PySem.W.findIn K (.ref C1) "name" = some none)
    (q2 : PySem.W.excIn K C2 [.type "ValueError", .type "Exception", .type "BaseException", .type "object"] "ValueError.__new__" = true)
    (ex2 : PySem.W.subIn K (.ref C2) (.type "BaseException") = some true)
    (ty2 : PySem.W.typeIn K (.ref C2) = some (.type "type"))
    (ic2 : PySem.W.isClsIn K C2 = true)
    (su2_1 : PySem.W.subIn K (.ref C2) (.ref C1) = some true)
    (su2_2 : PySem.W.subIn K (.ref C2) (.ref C2) = some true)
    (su2_3 : PySem.W.subIn K (.ref C2) (.ref C3) = some false)
    (su2_4 : PySem.W.subIn K (.ref C2) (.ref C4) = some false)
    (ga2 : PySem.W.findIn K (.ref C2) "__getattribute__" = some (some (.builtin "BaseException.__getattribute__")))
    (gg2 : PySem.W.findIn K (.ref C2) "__getattr__" = some none)
    (xd2 : PySem.W.hasDictIn K C2 = true)
    (xn2_0 : PySem.W.findIn K (.ref C2) "kind" = some none)
    (xn2_1 : PySem.W.findIn K (.ref C2) "name" = some none)
    (ex3 : PySem.W.subIn K (.ref C3) (.type "BaseException") = some true)
    (ty3 : PySem.W.typeIn K (.ref C3) = some (.type "type"))
    (ic3 : PySem.W.isClsIn K C3 = true)
    (su3_1 : PySem.W.subIn K (.ref C3) (.ref C1) = some true)
    (su3_2 : PySem.W.subIn K (.ref C3) (.ref C2) = some false)
    (su3_3 : PySem.W.subIn K (.ref C3) (.ref C3) = some true)
    (su3_4 : PySem.W.subIn K (.ref C3) (.ref C4) = some false)
    (ga3 : PySem.W.findIn K (.ref C3) "__getattribute__" = some (some (.builtin "BaseException.__getattribute__")))
    (gg3 : PySem.W.findIn K (.ref C3) "__getattr__" = some none)
    (xd3 : PySem.W.hasDictIn K C3 = true)
    (xn3_0 : PySem.W.findIn K (.ref C3) "kind" = some none)
    (xn3_1 : PySem.W.findIn K (.ref C3) "name" = some none)
    (q4 : PySem.W.excIn K C4 [.type "ValueError", .type "Exception", .type "BaseException", .type "object"] "ValueError.__new__" = true)
    (ex4 : PySem.W.subIn K (.ref C4) (.type "BaseException") = some true)
    (ty4 : PySem.W.typeIn K (.ref C4) = some (.type "type"))
    (ic4 : PySem.W.isClsIn K C4 = true)
    (su4_1 : PySem.W.subIn K (.ref C4) (.ref C1) = some true)
    (su4_2 : PySem.W.subIn K (.ref C4) (.ref C2) = some false)
    (su4_3 : PySem.W.subIn K (.ref C4) (.ref C3) = some false)
    (su4_4 : PySem.W.subIn K (.ref C4) (.ref C4) = some true)
    (ga4 : PySem.W.findIn K (.ref C4) "__getattribute__" = some (some (.builtin "BaseException.__getattribute__")))
    (gg4 : PySem.W.findIn K (.ref C4) "__getattr__" = some none)
    (xd4 : PySem.W.hasDictIn K C4 = true)
    (xn4_0 : PySem.W.findIn K (.ref C4) "kind" = some none)
    (xn4_1 : PySem.W.findIn K (.ref C4) "name" = some none)
    (xL3 : K.lookup C3 = some (excClassObj nm3 qn3 C3 N3 bs3 bm3 true sn3 sb3 ab3 co3 dd3 m03 m13 m23 m33 m53 "ValueError.__new__"))
    (xr3 : PySem.HandSPX.refsVE bm3 = true)
    (xs3 : PySem.W.findIn K (.ref C3) "__setattr__" = some (some (.builtin "object.__setattr__")))
    (xi3 : PySem.W.findIn K (.ref C3) "__init__" = some (some (.ref g3)))
    (xt3 : PySem.W.typeIn K (.ref g3) = some (.type "function"))
    (lx3 : K.lookup g3 = some ⟨ocx3, odx3, .func (PySem.W.fnOf "__init__" "BadKind.__init__" (defArgs x3) (defBody x3) (defScope x3) .none kVx3 dcx3 pmx3 anx3 cdx3 ctx3), slx3⟩)
    (cx3 : PySem.W.codeIn K cdx3 "BadKind.__init__" = true)
    (kx3 : PySem.W.keepIn K (.ref g3) = true)
    (b0 : PySem.W.nsIn K mainGlobals "isinstance" = some none)
    (b1 : PySem.W.nsIn K mainGlobals "int" = some none)
    (b2 : PySem.W.nsIn K mainGlobals "bool" = some none)
    (b3 : PySem.W.nsIn K mainGlobals "all" = some none)
    (b4 : PySem.W.nsIn K mainGlobals "str" = some none)
    (b5 : PySem.W.nsIn K mainGlobals "len" = some none)
    (b6 : PySem.W.nsIn K mainGlobals "tuple" = some none)
    (b7 : PySem.W.nsIn K mainGlobals "range" = some none)
    (b8 : PySem.W.nsIn K mainGlobals "abs" = some none)
    (b9 : PySem.W.nsIn K mainGlobals "list" = some none)
    (kg0 : PySem.W.nsIn K mainGlobals "ASKED" = some (some (.ref kd0)))
    (kl0 : K.lookup kd0 = some ⟨.type "dict", none, .dict #[⟨kh0_0, .str "I" kt0_0, .int 1 ku0_0⟩, ⟨kh0_1, .str "K" kt0_1, .int 2 ku0_1⟩, ⟨kh0_2, .str "S" kt0_2, .int 3 ku0_2⟩, ⟨kh0_3, .str "B" kt0_3, .int 3 ku0_3⟩, ⟨kh0_4, .str "C" kt0_4, .int 3 ku0_4⟩] kn0, #[]⟩)
    (kw0 : (kd0 == sysModules) = false)
    (kh0_0_h : kh0_0 = PyData.keyHash w.params "I")
    (kh0_1_h : kh0_1 = PyData.keyHash w.params "K")
    (kh0_2_h : kh0_2 = PyData.keyHash w.params "S")
    (kh0_3_h : kh0_3 = PyData.keyHash w.params "B")
    (kh0_4_h : kh0_4 = PyData.keyHash w.params "C")
    (m0 : PySem.W.nsIn K mainGlobals "MOST_SIZE" = some (some (.int 400 tk0)))
    (m1 : PySem.W.nsIn K mainGlobals "MOST_DEEP" = some (some (.int 100 tk1)))
    (m2 : PySem.W.nsIn K mainGlobals "MOST_MADE" = some (some (.int 4000 tk2)))
    (m3 : PySem.W.nsIn K mainGlobals "MOST_NESTED" = some (some (.int 300 tk3)))
    (m4 : PySem.W.nsIn K mainGlobals "MOST_NAME" = some (some (.int 12 tk4)))
    (m5 : PySem.W.nsIn K mainGlobals "WORDS" = some (some (.ref t5)))
    (mt5 : K.lookup t5 = some ⟨.type "tuple", dt5, .seq #[.str "let" tk5_0, .str "in" tk5_1] nt5, st5⟩)
    (m6 : PySem.W.nsIn K mainGlobals "LOWER" = some (some (.str "abcdefghijklmnopqrstuvwxyz" tk6)))
    (m7 : PySem.W.nsIn K mainGlobals "DIGITS" = some (some (.str "0123456789" tk7)))
    (m9 : PySem.W.nsIn K mainGlobals "FIRST" = some (some (.ref t9)))
    (mt9 : K.lookup t9 = some ⟨.type "tuple", dt9, .seq #[.str "at" tk9_0, .int 0 tk9_1] nt9, st9⟩)
    (nl : noList K = true)
    : ∃ fd : FuncData, (∀ (s : Shared) (v : Value), BindsTo s fd ⟨[v], []⟩ [("script", v)]) ∧ ∀ base : Heap, K.In base → base.Ns mainGlobals mg → FnR P w K mg base (L2.CX P w) 682 fl fd ["script"] (SpOut K) := by
  have e : fl = f37 := Value.ref.inj (Option.some.inj (hfa.symm.trans (PySem.W.mg_of X G a37)))
  subst fl
  have F0 := fun_mk (st := s0) l0 c0 k0
  have F1 := fun_mk (st := s1) l1 c1 k1
  have F2 := fun_mk (st := s2) l2 c2 k2
  have F3 := fun_mk (st := s3) l3 c3 k3
  have F4 := fun_mk (st := s4) l4 c4 k4
  have F5 := fun_mk (st := s5) l5 c5 k5
  have F6 := fun_mk (st := s6) l6 c6 k6
  have F7 := fun_mk (st := s7) l7 c7 k7
  have F8 := fun_mk (st := s8) l8 c8 k8
  have F9 := fun_mk (st := s9) l9 c9 k9
  have F10 := fun_mk (st := s10) l10 c10 k10
  have F11 := fun_mk (st := s11) l11 c11 k11
  have F12 := fun_mk (st := s12) l12 c12 k12
  have F13 := fun_mk (st := s13) l13 c13 k13
  have F14 := fun_mk (st := s14) l14 c14 k14
  have F15 := fun_mk (st := s15) l15 c15 k15
  have F16 := fun_mk (st := s16) l16 c16 k16
  have F17 := fun_mk (st := s17) l17 c17 k17
  have F18 := fun_mk (st := s18) l18 c18 k18
  have F19 := fun_mk (st := s19) l19 c19 k19
  have F20 := fun_mk (st := s20) l20 c20 k20
  have F21 := fun_mk (st := s21) l21 c21 k21
  have F22 := fun_mk (st := s22) l22 c22 k22
  have F23 := fun_mk (st := s23) l23 c23 k23
  have F24 := fun_mk (st := s24) l24 c24 k24
  have F25 := fun_mk (st := s25) l25 c25 k25
  have F26 := fun_mk (st := s26) l26 c26 k26
  have F27 := fun_mk (st := s27) l27 c27 k27
  have F28 := fun_mk (st := s28) l28 c28 k28
  have F29 := fun_mk (st := s29) l29 c29 k29
  have F30 := fun_mk (st := s30) l30 c30 k30
  have F31 := fun_mk (st := s31) l31 c31 k31
  have F32 := fun_mk (st := s32) l32 c32 k32
  have F33 := fun_mk (st := s33) l33 c33 k33
  have F34 := fun_mk (st := s34) l34 c34 k34
  have F35 := fun_mk (st := s35) l35 c35 k35
  have F36 := fun_mk (st := s36) l36 c36 k36
  have F37 := fun_mk (st := s37) l37 c37 k37
  have F38 := fun_mk (st := s38) l38 c38 k38
  have F39 := fun_mk (st := s39) l39 c39 k39
  have B0 := F0.binds (ps := ["value", "low", "high"]) fun _ _ _ _ _ _ us hl => match us, hl with | [_, _, _], _ => rfl
  have B1 := F1.binds (ps := ["value"]) fun _ _ _ _ _ _ us hl => match us, hl with | [_], _ => rfl
  have B2 := F2.binds (ps := ["value"]) fun _ _ _ _ _ _ us hl => match us, hl with | [_], _ => rfl
  have B3 := F3.binds (ps := ["value"]) fun _ _ _ _ _ _ us hl => match us, hl with | [_], _ => rfl
  have B4 := F4.binds (ps := ["value"]) fun _ _ _ _ _ _ us hl => match us, hl with | [_], _ => rfl
  have B5 := F5.binds (ps := ["term"]) fun _ _ _ _ _ _ us hl => match us, hl with | [_], _ => rfl
  have B6 := F6.binds (ps := ["value"]) fun _ _ _ _ _ _ us hl => match us, hl with | [_], _ => rfl
  have B7 := F7.binds (ps := ["value"]) fun _ _ _ _ _ _ us hl => match us, hl with | [_], _ => rfl
  have B8 := F8.binds (ps := ["value"]) fun _ _ _ _ _ _ us hl => match us, hl with | [_], _ => rfl
  have B9 := F9.binds (ps := ["one", "other"]) fun _ _ _ _ _ _ us hl => match us, hl with | [_, _], _ => rfl
  have B10 := F10.binds (ps := ["i"]) fun _ _ _ _ _ _ us hl => match us, hl with | [_], _ => rfl
  have B11 := F11.binds (ps := ["many", "body"]) fun _ _ _ _ _ _ us hl => match us, hl with | [_, _], _ => rfl
  have B12 := F12.binds (ps := []) fun _ _ _ _ _ _ us hl => match us, hl with | [], _ => rfl
  have B13 := F13.binds (ps := ["row"]) fun _ _ _ _ _ _ us hl => match us, hl with | [_], _ => rfl
  have B14 := F14.binds (ps := ["row"]) fun _ _ _ _ _ _ us hl => match us, hl with | [_], _ => rfl
  have B15 := F15.binds (ps := ["row"]) fun _ _ _ _ _ _ us hl => match us, hl with | [_], _ => rfl
  have B16 := F16.binds (ps := ["part"]) fun _ _ _ _ _ _ us hl => match us, hl with | [_], _ => rfl
  have B17 := F17.binds (ps := ["term"]) fun _ _ _ _ _ _ us hl => match us, hl with | [_], _ => rfl
  have B18 := F18.binds (ps := ["row", "known"]) fun _ _ _ _ _ _ us hl => match us, hl with | [_, _], _ => rfl
  have B19 := F19.binds (ps := ["row"]) fun _ _ _ _ _ _ us hl => match us, hl with | [_], _ => rfl
  have B20 := F20.binds (ps := ["script"]) fun _ _ _ _ _ _ us hl => match us, hl with | [_], _ => rfl
  have B21 := F21.binds (ps := ["tape", "many"]) fun _ _ _ _ _ _ us hl => match us, hl with | [_, _], _ => rfl
  have B22 := F22.binds (ps := ["tape", "row"]) fun _ _ _ _ _ _ us hl => match us, hl with | [_, _], _ => rfl
  have B23 := F23.binds (ps := ["told", "due"]) fun _ _ _ _ _ _ us hl => match us, hl with | [_, _], _ => rfl
  have B24 := F24.binds (ps := ["tape", "around", "size"]) fun _ _ _ _ _ _ us hl => match us, hl with | [_, _, _], _ => rfl
  have B25 := F25.binds (ps := ["many", "body"]) fun _ _ _ _ _ _ us hl => match us, hl with | [_, _], _ => rfl
  have B26 := F26.binds (ps := ["head", "args"]) fun _ _ _ _ _ _ us hl => match us, hl with | [_, _], _ => rfl
  have B27 := F27.binds (ps := ["n"]) fun _ _ _ _ _ _ us hl => match us, hl with | [_], _ => rfl
  have B28 := F28.binds (ps := ["tape"]) fun _ _ _ _ _ _ us hl => match us, hl with | [_], _ => rfl
  have B29 := F29.binds (ps := ["tape", "size"]) fun _ _ _ _ _ _ us hl => match us, hl with | [_, _], _ => rfl
  have B30 := F30.binds (ps := ["t"]) fun _ _ _ _ _ _ us hl => match us, hl with | [_], _ => rfl
  have B31 := F31.binds (ps := ["t", "deep"]) fun _ _ _ _ _ _ us hl => match us, hl with | [_, _], _ => rfl
  have B32 := F32.binds (ps := ["call_v", "value"]) fun _ _ _ _ _ _ us hl => match us, hl with | [_, _], _ => rfl
  have B33 := F33.binds (ps := ["c"]) fun _ _ _ _ _ _ us hl => match us, hl with | [_], _ => rfl
  have B34 := F34.binds (ps := ["c"]) fun _ _ _ _ _ _ us hl => match us, hl with | [_], _ => rfl
  have B35 := F35.binds (ps := ["t"]) fun _ _ _ _ _ _ us hl => match us, hl with | [_], _ => rfl
  have B36 := F36.binds (ps := ["c"]) fun _ _ _ _ _ _ us hl => match us, hl with | [_], _ => rfl
  have B37 := F37.binds (ps := ["script"]) fun _ _ _ _ _ _ us hl => match us, hl with | [_], _ => rfl
  have B38 := F38.binds (ps := ["self"]) fun _ _ _ _ _ _ us hl => match us, hl with | [_], _ => rfl
  have B39 := F39.binds (ps := ["self", "value", "around", "left"]) fun _ _ _ _ _ _ us hl => match us, hl with | [_, _, _, _], _ => rfl
  have Fx3 := fun_mk (st := x3) lx3 cx3 kx3
  have Bx3 := Fx3.binds (ps := ["self", "kind", "name"]) fun _ _ _ _ _ _ us hl => match us, hl with | [_, _, _], _ => rfl
  have T3 : OexC K C3 := ⟨⟨nm3, qn3, N3, bs3, bm3, sn3, sb3, ab3, co3, dd3, m03, m13, m23, m33, m53, xL3, xr3⟩, xs3, ex3, ty3, kC3⟩
  have em1_1 : PySem.W.exmOne K (.ref C1) (.ref C1) = some true := exm_of ex1 ic1 ty1 su1_1
  have em1_2 : PySem.W.exmOne K (.ref C1) (.ref C2) = some false := exm_of ex2 ic2 ty2 su1_2
  have em1_3 : PySem.W.exmOne K (.ref C1) (.ref C3) = some false := exm_of ex3 ic3 ty3 su1_3
  have em1_4 : PySem.W.exmOne K (.ref C1) (.ref C4) = some false := exm_of ex4 ic4 ty4 su1_4
  have em2_1 : PySem.W.exmOne K (.ref C2) (.ref C1) = some true := exm_of ex1 ic1 ty1 su2_1
  have em2_2 : PySem.W.exmOne K (.ref C2) (.ref C2) = some true := exm_of ex2 ic2 ty2 su2_2
  have em2_3 : PySem.W.exmOne K (.ref C2) (.ref C3) = some false := exm_of ex3 ic3 ty3 su2_3
  have em2_4 : PySem.W.exmOne K (.ref C2) (.ref C4) = some false := exm_of ex4 ic4 ty4 su2_4
  have em3_1 : PySem.W.exmOne K (.ref C3) (.ref C1) = some true := exm_of ex1 ic1 ty1 su3_1
  have em3_2 : PySem.W.exmOne K (.ref C3) (.ref C2) = some false := exm_of ex2 ic2 ty2 su3_2
  have em3_3 : PySem.W.exmOne K (.ref C3) (.ref C3) = some true := exm_of ex3 ic3 ty3 su3_3
  have em3_4 : PySem.W.exmOne K (.ref C3) (.ref C4) = some false := exm_of ex4 ic4 ty4 su3_4
  have em4_1 : PySem.W.exmOne K (.ref C4) (.ref C1) = some true := exm_of ex1 ic1 ty1 su4_1
  have em4_2 : PySem.W.exmOne K (.ref C4) (.ref C2) = some false := exm_of ex2 ic2 ty2 su4_2
  have em4_3 : PySem.W.exmOne K (.ref C4) (.ref C3) = some false := exm_of ex3 ic3 ty3 su4_3
  have em4_4 : PySem.W.exmOne K (.ref C4) (.ref C4) = some true := exm_of ex4 ic4 ty4 su4_4
  have TB : ∀ n, Tab K mg (mkZ w K (fun c => [C0, C1, C2, C3, C4].getD c 0) (fun i => [f0, f1, f2, f3, f4, f5, f6, f7, f8, f9, f10, f11, f12, f13, f14, f15, f16, f17, f18, f19, f20, f21, f22, f23, f24, f25, f26, f27, f28, f29, f30, f31, f32, f33, f34, f35, f36, f37, f38, f39].getD i 0)) (lvl prg n) := by
    intro n
    refine ⟨by cases n <;> rfl, by cases n <;> rfl, fun i hi => ?_, fun c hc => ?_, fun x hx => ?_, fun j x d hj => ?_, fun j x d hj => ?_, fun c hc => ?_⟩
    · match i, hi with
      | 0, _ => exact ⟨PySem.W.mg_of X G a0, k0⟩
      | 1, _ => exact ⟨PySem.W.mg_of X G a1, k1⟩
      | 2, _ => exact ⟨PySem.W.mg_of X G a2, k2⟩
      | 3, _ => exact ⟨PySem.W.mg_of X G a3, k3⟩
      | 4, _ => exact ⟨PySem.W.mg_of X G a4, k4⟩
      | 5, _ => exact ⟨PySem.W.mg_of X G a5, k5⟩
      | 6, _ => exact ⟨PySem.W.mg_of X G a6, k6⟩
      | 7, _ => exact ⟨PySem.W.mg_of X G a7, k7⟩
      | 8, _ => exact ⟨PySem.W.mg_of X G a8, k8⟩
      | 9, _ => exact ⟨PySem.W.mg_of X G a9, k9⟩
      | 10, _ => exact ⟨PySem.W.mg_of X G a10, k10⟩
      | 11, _ => exact ⟨PySem.W.mg_of X G a11, k11⟩
      | 12, _ => exact ⟨PySem.W.mg_of X G a12, k12⟩
      | 13, _ => exact ⟨PySem.W.mg_of X G a13, k13⟩
      | 14, _ => exact ⟨PySem.W.mg_of X G a14, k14⟩
      | 15, _ => exact ⟨PySem.W.mg_of X G a15, k15⟩
      | 16, _ => exact ⟨PySem.W.mg_of X G a16, k16⟩
      | 17, _ => exact ⟨PySem.W.mg_of X G a17, k17⟩
      | 18, _ => exact ⟨PySem.W.mg_of X G a18, k18⟩
      | 19, _ => exact ⟨PySem.W.mg_of X G a19, k19⟩
      | 20, _ => exact ⟨PySem.W.mg_of X G a20, k20⟩
      | 21, _ => exact ⟨PySem.W.mg_of X G a21, k21⟩
      | 22, _ => exact ⟨PySem.W.mg_of X G a22, k22⟩
      | 23, _ => exact ⟨PySem.W.mg_of X G a23, k23⟩
      | 24, _ => exact ⟨PySem.W.mg_of X G a24, k24⟩
      | 25, _ => exact ⟨PySem.W.mg_of X G a25, k25⟩
      | 26, _ => exact ⟨PySem.W.mg_of X G a26, k26⟩
      | 27, _ => exact ⟨PySem.W.mg_of X G a27, k27⟩
      | 28, _ => exact ⟨PySem.W.mg_of X G a28, k28⟩
      | 29, _ => exact ⟨PySem.W.mg_of X G a29, k29⟩
      | 30, _ => exact ⟨PySem.W.mg_of X G a30, k30⟩
      | 31, _ => exact ⟨PySem.W.mg_of X G a31, k31⟩
      | 32, _ => exact ⟨PySem.W.mg_of X G a32, k32⟩
      | 33, _ => exact ⟨PySem.W.mg_of X G a33, k33⟩
      | 34, _ => exact ⟨PySem.W.mg_of X G a34, k34⟩
      | 35, _ => exact ⟨PySem.W.mg_of X G a35, k35⟩
      | 36, _ => exact ⟨PySem.W.mg_of X G a36, k36⟩
      | 37, _ => exact ⟨PySem.W.mg_of X G a37, k37⟩
      | i + 38, hi => exact absurd (show i + 38 < 38 from hi) (by omega)
    · match c, hc with
      | 0, _ => exact ⟨PySem.W.mg_of X G aC0, kC0⟩
      | 1, _ => exact ⟨PySem.W.mg_of X G aC1, kC1⟩
      | 2, _ => exact ⟨PySem.W.mg_of X G aC2, kC2⟩
      | 3, _ => exact ⟨PySem.W.mg_of X G aC3, kC3⟩
      | 4, _ => exact ⟨PySem.W.mg_of X G aC4, kC4⟩
      | c + 5, hc => exact absurd (show c + 5 < 5 from hc) (by omega)
    · have hx : x ∈ nob := hx
      unfold nob at hx
      simp only [List.mem_cons, List.not_mem_nil, or_false] at hx
      rcases hx with rfl | rfl | rfl | rfl | rfl | rfl | rfl | rfl | rfl | rfl
      · exact PySem.W.mg_none_of X G b0
      · exact PySem.W.mg_none_of X G b1
      · exact PySem.W.mg_none_of X G b2
      · exact PySem.W.mg_none_of X G b3
      · exact PySem.W.mg_none_of X G b4
      · exact PySem.W.mg_none_of X G b5
      · exact PySem.W.mg_none_of X G b6
      · exact PySem.W.mg_none_of X G b7
      · exact PySem.W.mg_none_of X G b8
      · exact PySem.W.mg_none_of X G b9
    · match j, hj with
      | 0, hj => cases hj; exact ⟨.int 400, _, PySem.W.mg_of X G m0, ⟨tk0, rfl⟩, fun H => .int⟩
      | 1, hj => cases hj; exact ⟨.int 100, _, PySem.W.mg_of X G m1, ⟨tk1, rfl⟩, fun H => .int⟩
      | 2, hj => cases hj; exact ⟨.int 4000, _, PySem.W.mg_of X G m2, ⟨tk2, rfl⟩, fun H => .int⟩
      | 3, hj => cases hj; exact ⟨.int 300, _, PySem.W.mg_of X G m3, ⟨tk3, rfl⟩, fun H => .int⟩
      | 4, hj => cases hj; exact ⟨.int 12, _, PySem.W.mg_of X G m4, ⟨tk4, rfl⟩, fun H => .int⟩
      | 5, hj => cases hj; exact ⟨.ref t5, _, PySem.W.mg_of X G m5, rfl, fun H => (.tup (vs := [.str (st [108, 101, 116]), .str (st [105, 110])]) (.inr ⟨_, _, _, mt5, rfl, rfl, by show 2 ≤ sizeLine; rw [sizeLine_eq]; omega, (.cons ⟨tk5_0, by rfl⟩ (.cons ⟨tk5_1, by rfl⟩ .nil))⟩) (.cons .str (.cons .str .nil)))⟩
      | 6, hj => cases hj; exact ⟨.str (st [97, 98, 99, 100, 101, 102, 103, 104, 105, 106, 107, 108, 109, 110, 111, 112, 113, 114, 115, 116, 117, 118, 119, 120, 121, 122]), _, PySem.W.mg_of X G m6, ⟨tk6, by rfl⟩, fun H => .str⟩
      | 7, hj => cases hj; exact ⟨.str (st [48, 49, 50, 51, 52, 53, 54, 55, 56, 57]), _, PySem.W.mg_of X G m7, ⟨tk7, by rfl⟩, fun H => .str⟩
      | 8, hj => cases hj
      | 9, hj => cases hj; exact ⟨.ref t9, _, PySem.W.mg_of X G m9, rfl, fun H => (.tup (vs := [.str (st [97, 116]), .int 0]) (.inr ⟨_, _, _, mt9, rfl, rfl, by show 2 ≤ sizeLine; rw [sizeLine_eq]; omega, (.cons ⟨tk9_0, by rfl⟩ (.cons ⟨tk9_1, by rfl⟩ .nil))⟩) (.cons .str (.cons .int .nil)))⟩
      | j + 10, hj => cases hj
    · match j, hj with
      | 0, hj => cases hj; exact ⟨w.params, kd0, _, _, rfl, PySem.W.mg_of X G kg0, ⟨kl0, ⟨⟨_, _, rfl, kh0_0_h⟩, ⟨⟨_, _, rfl, kh0_1_h⟩, ⟨⟨_, _, rfl, kh0_2_h⟩, ⟨⟨_, _, rfl, kh0_3_h⟩, ⟨⟨_, _, rfl, kh0_4_h⟩, trivial⟩⟩⟩⟩⟩, kw0, (.cons rfl (by rfl) (show RelV (.int 1) _ from ⟨_, rfl⟩) (fun H => .int) (.cons rfl (by rfl) (show RelV (.int 2) _ from ⟨_, rfl⟩) (fun H => .int) (.cons rfl (by rfl) (show RelV (.int 3) _ from ⟨_, rfl⟩) (fun H => .int) (.cons rfl (by rfl) (show RelV (.int 3) _ from ⟨_, rfl⟩) (fun H => .int) (.cons rfl (by rfl) (show RelV (.int 3) _ from ⟨_, rfl⟩) (fun H => .int) .nil)))))⟩⟩
      | j + 1, hj => cases hj
    · have hc : ni c = true := hc
      unfold ni at hc
      split at hc
      · cases hc
  have XA : ∀ (base : Heap) n, Xal P w K mg base (mkZ w K (fun c => [C0, C1, C2, C3, C4].getD c 0) (fun i => [f0, f1, f2, f3, f4, f5, f6, f7, f8, f9, f10, f11, f12, f13, f14, f15, f16, f17, f18, f19, f20, f21, f22, f23, f24, f25, f26, f27, f28, f29, f30, f31, f32, f33, f34, f35, f36, f37, f38, f39].getD i 0)) (lvl prg n) := by
    intro base n
    have ef : (lvl prg n).xfl = xfl := by cases n <;> rfl
    have es : (lvl prg n).xsub = xsub := by cases n <;> rfl
    refine ⟨fun c hc hl => ?_, fun c hc hl => ?_, fun c hc c' hc' => ?_, fun f hf => ⟨?_, fun c hc => ?_⟩⟩
    · match c, hc, hl with
      | 0, h, _ => exact absurd (show 1 ≤ 0 from h.1) (by omega)
      | 1, hc, hl => exact ⟨hc, hl, q1, ex1, ty1⟩
      | 2, hc, hl => exact ⟨hc, hl, q2, ex2, ty2⟩
      | 3, _, hl => rw [ef] at hl; cases hl
      | 4, hc, hl => exact ⟨hc, hl, q4, ex4, ty4⟩
      | c + 5, h, _ => exact absurd (show c + 5 < 5 from h.2) (by omega)
    · match c, hc, hl with
      | 0, h, _ => exact absurd (show 1 ≤ 0 from h.1) (by omega)
      | 1, _, hl => exact absurd (by rw [ef]; rfl) hl
      | 2, _, hl => exact absurd (by rw [ef]; rfl) hl
      | 3, hc, hl =>
        refine ⟨hc, by rw [ef]; show ∀ f ∈ xfl 3, f < 3; decide, by rw [ef]; decide, T3, g3, _, _, xi3, xt3, ?_, Bx3⟩
        rw [ef]
        exact ok_ini2 (f1 := "kind") (f2 := "name") Fx3 ⟨rfl, rfl, rfl, by decide +kernel, rfl, by decide +kernel, by decide +kernel⟩ T3 xn3_0 xn3_1 fun cdv A outer s H E => (pss_cons (ps_ost (pv 0) (pv 1) rfl) (pss_cons (ps_ost (pv 0) (pv 2) rfl) pss_nil))
      | 4, _, hl => exact absurd (by rw [ef]; rfl) hl
      | c + 5, h, _ => exact absurd (show c + 5 < 5 from h.2) (by omega)
    · rw [es]
      match c, hc, c', hc' with
      | 0, h, _, _ => exact absurd (show 1 ≤ 0 from h.1) (by omega)
      | _, _, 0, h => exact absurd (show 1 ≤ 0 from h.1) (by omega)
      | 1, _, 1, _ => exact em1_1
      | 2, _, 1, _ => exact em1_2
      | 3, _, 1, _ => exact em1_3
      | 4, _, 1, _ => exact em1_4
      | 1, _, 2, _ => exact em2_1
      | 2, _, 2, _ => exact em2_2
      | 3, _, 2, _ => exact em2_3
      | 4, _, 2, _ => exact em2_4
      | 1, _, 3, _ => exact em3_1
      | 2, _, 3, _ => exact em3_2
      | 3, _, 3, _ => exact em3_3
      | 4, _, 3, _ => exact em3_4
      | 1, _, 4, _ => exact em4_1
      | 2, _, 4, _ => exact em4_2
      | 3, _, 4, _ => exact em4_3
      | 4, _, 4, _ => exact em4_4
      | c + 5, h, _, _ => exact absurd (show c + 5 < 5 from h.2) (by omega)
      | _, _, c + 5, h => exact absurd (show c + 5 < 5 from h.2) (by omega)
    · exact Nat.lt_of_lt_of_le (show f < 2 from hf) (by show 2 ≤ 3; decide)
    · match f, hf, c, hc with
      | 0, _, 1, _ => exact ⟨ga1, gg1, xn1_0, ex1, xd1⟩
      | 0, _, 2, _ => exact ⟨ga2, gg2, xn2_0, ex2, xd2⟩
      | 0, _, 3, _ => exact ⟨ga3, gg3, xn3_0, ex3, xd3⟩
      | 0, _, 4, _ => exact ⟨ga4, gg4, xn4_0, ex4, xd4⟩
      | 1, _, 1, _ => exact ⟨ga1, gg1, xn1_1, ex1, xd1⟩
      | 1, _, 2, _ => exact ⟨ga2, gg2, xn2_1, ex2, xd2⟩
      | 1, _, 3, _ => exact ⟨ga3, gg3, xn3_1, ex3, xd3⟩
      | 1, _, 4, _ => exact ⟨ga4, gg4, xn4_1, ex4, xd4⟩
      | _, _, 0, h => exact absurd (show 1 ≤ 0 from h.1) (by omega)
      | _, _, c + 5, h => exact absurd (show c + 5 < 5 from h.2) (by omega)
      | f + 2, h, _, _ => exact absurd (show f + 2 < 2 from h) (by omega)
  refine ⟨PySem.W.fnOf "law" "law" (defArgs s37) (defBody s37) (defScope s37) .none kV37 dc37 pm37 an37 cd37 ct37, fun s v => .of_eq rfl, fun base KB GB => ?_⟩
  have SD : Std P w K mg base (mkZ w K (fun c => [C0, C1, C2, C3, C4].getD c 0) (fun i => [f0, f1, f2, f3, f4, f5, f6, f7, f8, f9, f10, f11, f12, f13, f14, f15, f16, f17, f18, f19, f20, f21, f22, f23, f24, f25, f26, f27, f28, f29, f30, f31, f32, f33, f34, f35, f36, f37, f38, f39].getD i 0)) prg := by
    refine ⟨rfl, fun c hc => ?_, fun c f hc hf => ?_, fun c m i h => ?_, fun c m i h f hf => ?_, fun c i h => ?_, fun i L m b h => ?_⟩
    · match c, hc with
      | 0, _ => exact ⟨pg0, hd0, po0, sa0⟩
      | c + 1, hc => exact absurd (show c + 1 < 1 from hc) (by omega)
    · match c, hc, f, hf with
      | 0, _, 0, _ => exact n0_0
      | 0, _, 1, _ => exact n0_1
      | 0, _, 2, _ => exact n0_2
      | c + 1, hc, _, _ => exact absurd (show c + 1 < 1 from hc) (by omega)
      | _, _, f + 3, hf => exact absurd (show f + 3 < 3 from hf) (by omega)
    · have h : mt c m = some i := h
      unfold mt at h
      split at h <;> cases h
      · exact ⟨a0_38, i38, k38⟩
      · exact ⟨a0_39, i39, k39⟩
    · have h : mt c m = some i := h
      unfold mt at h
      split at h <;> cases h
      · exact mn_fld0 f hf
      · exact mn_fld1 f hf
    · have h : io c = some i := h
      unfold io at h
      split at h <;> cases h
      · exact ⟨by show 0 < 1; decide, mk0, a0_38, i38, kC0⟩
    · match i, h with
      | 0, h =>
        cases h
        exact ⟨"is_integer", "is_integer", s0, ["value", "low", "high"], ["value", "low", "high"], _, F0, ⟨rfl, rfl, rfl, by decide +kernel, rfl, by decide +kernel, by decide +kernel⟩, B0, rfl, rfl, fun n cdv A outer s H E M => d0 M (XA base n)⟩
      | 1, h =>
        cases h
        exact ⟨"is_name", "is_name", s1, ["value", "sign"], ["value"], _, F1, ⟨rfl, rfl, rfl, by decide +kernel, rfl, by decide +kernel, by decide +kernel⟩, B1, rfl, rfl, fun n cdv A outer s H E M => d1 M (XA base n)⟩
      | 2, h =>
        cases h
        exact ⟨"form_of", "form_of", s2, ["value"], ["value"], _, F2, ⟨rfl, rfl, rfl, by decide +kernel, rfl, by decide +kernel, by decide +kernel⟩, B2, rfl, rfl, fun n cdv A outer s H E M => d2 M (XA base n)⟩
      | 3, h =>
        cases h
        exact ⟨"is_term", "is_term", s3, ["value"], ["value"], _, F3, ⟨rfl, rfl, rfl, by decide +kernel, rfl, by decide +kernel, by decide +kernel⟩, B3, rfl, rfl, fun n cdv A outer s H E M => d3 M (XA base n)⟩
      | 4, h =>
        cases h
        exact ⟨"check_term", "check_term", s4, ["value"], ["value"], _, F4, ⟨rfl, rfl, rfl, by decide +kernel, rfl, by decide +kernel, by decide +kernel⟩, B4, rfl, rfl, fun n cdv A outer s H E M => d4 M (XA base n)⟩
      | 5, h =>
        cases h
        exact ⟨"made", "made", s5, ["term", "rows", "many", "one", "deep"], ["term"], _, F5, ⟨rfl, rfl, rfl, by decide +kernel, rfl, by decide +kernel, by decide +kernel⟩, B5, rfl, rfl, fun n cdv A outer s H E M => d5 M (XA base n)⟩
      | 6, h =>
        cases h
        exact ⟨"is_leaf", "is_leaf", s6, ["value", "form"], ["value"], _, F6, ⟨rfl, rfl, rfl, by decide +kernel, rfl, by decide +kernel, by decide +kernel⟩, B6, rfl, rfl, fun n cdv A outer s H E M => d6 M (XA base n)⟩
      | 7, h =>
        cases h
        exact ⟨"is_combinators", "is_combinators", s7, ["value", "rows", "many", "one", "deep"], ["value"], _, F7, ⟨rfl, rfl, rfl, by decide +kernel, rfl, by decide +kernel, by decide +kernel⟩, B7, rfl, rfl, fun n cdv A outer s H E M => d7 M (XA base n)⟩
      | 8, h =>
        cases h
        exact ⟨"check_row", "check_row", s8, ["value"], ["value"], _, F8, ⟨rfl, rfl, rfl, by decide +kernel, rfl, by decide +kernel, by decide +kernel⟩, B8, rfl, rfl, fun n cdv A outer s H E M => d8 M (XA base n)⟩
      | 9, h =>
        cases h
        exact ⟨"call", "call", s9, ["one", "other"], ["one", "other"], _, F9, ⟨rfl, rfl, rfl, by decide +kernel, rfl, by decide +kernel, by decide +kernel⟩, B9, rfl, rfl, fun n cdv A outer s H E M => d9 M (XA base n)⟩
      | 10, h =>
        cases h
        exact ⟨"at", "at", s10, ["i"], ["i"], _, F10, ⟨rfl, rfl, rfl, by decide +kernel, rfl, by decide +kernel, by decide +kernel⟩, B10, rfl, rfl, fun n cdv A outer s H E M => d10 M (XA base n)⟩
      | 11, h =>
        cases h
        exact ⟨"functions", "functions", s11, ["many", "body", "k"], ["many", "body"], _, F11, ⟨rfl, rfl, rfl, by decide +kernel, rfl, by decide +kernel, by decide +kernel⟩, B11, rfl, rfl, fun n cdv A outer s H E M => d11 M (XA base n)⟩
      | 12, h =>
        cases h
        exact ⟨"meanings", "meanings", s12, ["x", "y", "z"], [], _, F12, ⟨rfl, rfl, rfl, by decide +kernel, rfl, by decide +kernel, by decide +kernel⟩, B12, rfl, rfl, fun n cdv A outer s H E M => d12 M (XA base n)⟩
      | 13, h =>
        cases h
        exact ⟨"has_first", "has_first", s13, ["row", "rows", "one"], ["row"], _, F13, ⟨rfl, rfl, rfl, by decide +kernel, rfl, by decide +kernel, by decide +kernel⟩, B13, rfl, rfl, fun n cdv A outer s H E M => d13 M (XA base n)⟩
      | 14, h =>
        cases h
        exact ⟨"lowered", "lowered", s14, ["row"], ["row"], _, F14, ⟨rfl, rfl, rfl, by decide +kernel, rfl, by decide +kernel, by decide +kernel⟩, B14, rfl, rfl, fun n cdv A outer s H E M => d14 M (XA base n)⟩
      | 15, h =>
        cases h
        exact ⟨"without", "without", s15, ["row", "one", "other"], ["row"], _, F15, ⟨rfl, rfl, rfl, by decide +kernel, rfl, by decide +kernel, by decide +kernel⟩, B15, rfl, rfl, fun n cdv A outer s H E M => d15 M (XA base n)⟩
      | 16, h =>
        cases h
        exact ⟨"row_of_part", "row_of_part", s16, ["part"], ["part"], _, F16, ⟨rfl, rfl, rfl, by decide +kernel, rfl, by decide +kernel, by decide +kernel⟩, B16, rfl, rfl, fun n cdv A outer s H E M => d16 M (XA base n)⟩
      | 17, h =>
        cases h
        exact ⟨"combinators_of", "combinators_of", s17, ["term"], ["term"], _, F17, ⟨rfl, rfl, rfl, by decide +kernel, rfl, by decide +kernel, by decide +kernel⟩, B17, rfl, rfl, fun n cdv A outer s H E M => d17 M (XA base n)⟩
      | 18, h =>
        cases h
        exact ⟨"meant", "meant", s18, ["row", "known"], ["row", "known"], _, F18, ⟨rfl, rfl, rfl, by decide +kernel, rfl, by decide +kernel, by decide +kernel⟩, B18, rfl, rfl, fun n cdv A outer s H E M => d18 M (XA base n)⟩
      | 19, h =>
        cases h
        exact ⟨"term_of", "term_of", s19, ["row"], ["row"], _, F19, ⟨rfl, rfl, rfl, by decide +kernel, rfl, by decide +kernel, by decide +kernel⟩, B19, rfl, rfl, fun n cdv A outer s H E M => d19 M (XA base n)⟩
      | 20, h =>
        cases h
        exact ⟨"_law_tape", "_law_tape", s20, ["script", "seed", "cell"], ["script"], _, F20, ⟨rfl, rfl, rfl, by decide +kernel, rfl, by decide +kernel, by decide +kernel⟩, B20, rfl, rfl, fun n cdv A outer s H E M => d20 M (XA base n)⟩
      | 21, h =>
        cases h
        exact ⟨"_law_draw", "_law_draw", s21, ["tape", "many", "cells", "number"], ["tape", "many"], _, F21, ⟨rfl, rfl, rfl, by decide +kernel, rfl, by decide +kernel, by decide +kernel⟩, B21, rfl, rfl, fun n cdv A outer s H E M => d21 M (XA base n)⟩
      | 22, h =>
        cases h
        exact ⟨"_law_pick", "_law_pick", s22, ["tape", "row"], ["tape", "row"], _, F22, ⟨rfl, rfl, rfl, by decide +kernel, rfl, by decide +kernel, by decide +kernel⟩, B22, rfl, rfl, fun n cdv A outer s H E M => d22 M (XA base n)⟩
      | 23, h =>
        cases h
        exact ⟨"_law_same", "_law_same", s23, ["told", "due", "k"], ["told", "due"], _, F23, ⟨rfl, rfl, rfl, by decide +kernel, rfl, by decide +kernel, by decide +kernel⟩, B23, rfl, rfl, fun n cdv A outer s H E M => d23 M (XA base n)⟩
      | 24, h =>
        cases h
        exact ⟨"_law_part", "_law_part", s24, ["tape", "around", "size", "pick", "left"], ["tape", "around", "size"], _, F24, ⟨rfl, rfl, rfl, by decide +kernel, rfl, by decide +kernel, by decide +kernel⟩, B24, rfl, rfl, fun n cdv A outer s H E M => d24 M (XA base n)⟩
      | 25, h =>
        cases h
        exact ⟨"_law_funs", "_law_funs", s25, ["many", "body", "k"], ["many", "body"], _, F25, ⟨rfl, rfl, rfl, by decide +kernel, rfl, by decide +kernel, by decide +kernel⟩, B25, rfl, rfl, fun n cdv A outer s H E M => d25 M (XA base n)⟩
      | 26, h =>
        cases h
        exact ⟨"_law_calls", "_law_calls", s26, ["head", "args", "one"], ["head", "args"], _, F26, ⟨rfl, rfl, rfl, by decide +kernel, rfl, by decide +kernel, by decide +kernel⟩, B26, rfl, rfl, fun n cdv A outer s H E M => d26 M (XA base n)⟩
      | 27, h =>
        cases h
        exact ⟨"_law_number", "_law_number", s27, ["n", "body", "k"], ["n"], _, F27, ⟨rfl, rfl, rfl, by decide +kernel, rfl, by decide +kernel, by decide +kernel⟩, B27, rfl, rfl, fun n cdv A outer s H E M => d27 M (XA base n)⟩
      | 28, h =>
        cases h
        exact ⟨"_law_known", "_law_known", s28, ["tape", "one", "twice", "true", "false", "times", "plus", "found"], ["tape"], _, F28, ⟨rfl, rfl, rfl, by decide +kernel, rfl, by decide +kernel, by decide +kernel⟩, B28, rfl, rfl, fun n cdv A outer s H E M => d28 M (XA base n)⟩
      | 29, h =>
        cases h
        exact ⟨"_law_term", "_law_term", s29, ["tape", "size", "pick", "k"], ["tape", "size"], _, F29, ⟨rfl, rfl, rfl, by decide +kernel, rfl, by decide +kernel, by decide +kernel⟩, B29, rfl, rfl, fun n cdv A outer s H E M => d29 M (XA base n)⟩
      | 30, h =>
        cases h
        exact ⟨"_law_size", "_law_size", s30, ["t", "rows", "many", "one", "part"], ["t"], _, F30, ⟨rfl, rfl, rfl, by decide +kernel, rfl, by decide +kernel, by decide +kernel⟩, B30, rfl, rfl, fun n cdv A outer s H E M => d30 M (XA base n)⟩
      | 31, h =>
        cases h
        exact ⟨"_law_has", "_law_has", s31, ["t", "deep"], ["t", "deep"], _, F31, ⟨rfl, rfl, rfl, by decide +kernel, rfl, by decide +kernel, by decide +kernel⟩, B31, rfl, rfl, fun n cdv A outer s H E M => d31 M (XA base n)⟩
      | 32, h =>
        cases h
        exact ⟨"_law_call", "_law_call", s32, ["call_v", "value", "error", "told"], ["call_v", "value"], _, F32, ⟨rfl, rfl, rfl, by decide +kernel, rfl, by decide +kernel, by decide +kernel⟩, B32, rfl, rfl, fun n cdv A outer s H E M => d32 M (XA base n)⟩
      | 33, h =>
        cases h
        exact ⟨"_law_lower", "_law_lower", s33, ["c"], ["c"], _, F33, ⟨rfl, rfl, rfl, by decide +kernel, rfl, by decide +kernel, by decide +kernel⟩, B33, rfl, rfl, fun n cdv A outer s H E M => d33 M (XA base n)⟩
      | 34, h =>
        cases h
        exact ⟨"_law_without", "_law_without", s34, ["c", "a", "b"], ["c"], _, F34, ⟨rfl, rfl, rfl, by decide +kernel, rfl, by decide +kernel, by decide +kernel⟩, B34, rfl, rfl, fun n cdv A outer s H E M => d34 M (XA base n)⟩
      | 35, h =>
        cases h
        exact ⟨"_law_made", "_law_made", s35, ["t"], ["t"], _, F35, ⟨rfl, rfl, rfl, by decide +kernel, rfl, by decide +kernel, by decide +kernel⟩, B35, rfl, rfl, fun n cdv A outer s H E M => d35 M (XA base n)⟩
      | 36, h =>
        cases h
        exact ⟨"_law_meant", "_law_meant", s36, ["c", "bodies", "x", "y", "z"], ["c"], _, F36, ⟨rfl, rfl, rfl, by decide +kernel, rfl, by decide +kernel, by decide +kernel⟩, B36, rfl, rfl, fun n cdv A outer s H E M => d36 M (XA base n)⟩
      | 37, h =>
        cases h
        exact ⟨"law", "law", s37, ["script", "tape", "turn", "term", "due", "told"], ["script"], _, F37, ⟨rfl, rfl, rfl, by decide +kernel, rfl, by decide +kernel, by decide +kernel⟩, B37, rfl, rfl, fun n cdv A outer s H E M => d37 M (XA base n)⟩
      | 38, h =>
        cases h
        exact ⟨"__init__", "Form.__init__", s38, ["self"], ["self"], _, F38, ⟨rfl, rfl, rfl, by decide +kernel, rfl, by decide +kernel, by decide +kernel⟩, B38, rfl, rfl, fun n cdv A outer s H E M => d38 M (XA base n)⟩
      | 39, h =>
        cases h
        exact ⟨"is_good", "Form.is_good", s39, ["self", "value", "around", "left", "form"], ["self", "value", "around", "left"], _, F39, ⟨rfl, rfl, rfl, by decide +kernel, rfl, by decide +kernel, by decide +kernel⟩, B39, rfl, rfl, fun n cdv A outer s H E M => d39 M (XA base n)⟩
      | i + 40, h => cases h
  have FX := fn_lvl (n := 679) (i := 37) (st := s37) (N := ["script", "tape", "turn", "term", "due", "told"]) (ps := ["script"]) (lvl_ok SD TB 679) TB rfl F37 ⟨rfl, rfl, rfl, by decide +kernel, rfl, by decide +kernel, by decide +kernel⟩ rfl rfl (fun cdv A outer s H E M => d37 M (XA base 679))
  exact FX.imp fun vs H Q E h => sp_out nl pure vs H Q E h
end K42
end Mini
end L2
open PySem PySem.W PyProof.Rows
set_option maxRecDepth 100000 in
set_option maxHeartbeats 0 in
theorem PySem.Challenge.cw_normalhouse_k42_terms_without_variables_holds : PySem.Challenge.rw_normalhouse_k42_terms_without_variables.Holds := by
  w_on; o_law; k_head; (case hw => w_witness2)
  k_fill
  refine L2.Mini.walkM (l := PySem.Challenge.rw_normalhouse_k42_terms_without_variables) (j := 682) (k := 231) rfl rfl ⟨rfl, by decide, by decide⟩ (by decide) (by decide) (fun w h Y => PySem.W.kIn_of Y) ?F
  case F =>
    intro w mg fa h KX G hmg
    refine' L2.Mini.K42.all_mk KX G hmg L2.Mini.K42.pure_law ?aC0 ?kC0 ?aC1 ?kC1 ?aC2 ?kC2 ?aC3 ?kC3 ?aC4 ?kC4 ?a0_38 ?a0_39 ?a0 ?l0 ?c0 ?k0 ?a1 ?l1 ?c1 ?k1 ?a2 ?l2 ?c2 ?k2 ?a3 ?l3 ?c3 ?k3 ?a4 ?l4 ?c4 ?k4 ?a5 ?l5 ?c5 ?k5 ?a6 ?l6 ?c6 ?k6 ?a7 ?l7 ?c7 ?k7 ?a8 ?l8 ?c8 ?k8 ?a9 ?l9 ?c9 ?k9 ?a10 ?l10 ?c10 ?k10 ?a11 ?l11 ?c11 ?k11 ?a12 ?l12 ?c12 ?k12 ?a13 ?l13 ?c13 ?k13 ?a14 ?l14 ?c14 ?k14 ?a15 ?l15 ?c15 ?k15 ?a16 ?l16 ?c16 ?k16 ?a17 ?l17 ?c17 ?k17 ?a18 ?l18 ?c18 ?k18 ?a19 ?l19 ?c19 ?k19 ?a20 ?l20 ?c20 ?k20 ?a21 ?l21 ?c21 ?k21 ?a22 ?l22 ?c22 ?k22 ?a23 ?l23 ?c23 ?k23 ?a24 ?l24 ?c24 ?k24 ?a25 ?l25 ?c25 ?k25 ?a26 ?l26 ?c26 ?k26 ?a27 ?l27 ?c27 ?k27 ?a28 ?l28 ?c28 ?k28 ?a29 ?l29 ?c29 ?k29 ?a30 ?l30 ?c30 ?k30 ?a31 ?l31 ?c31 ?k31 ?a32 ?l32 ?c32 ?k32 ?a33 ?l33 ?c33 ?k33 ?a34 ?l34 ?c34 ?k34 ?a35 ?l35 ?c35 ?k35 ?a36 ?l36 ?c36 ?k36 ?a37 ?l37 ?c37 ?k37 ?i38 ?l38 ?c38 ?k38 ?i39 ?l39 ?c39 ?k39 ?pg0 ?hd0 ?po0 ?sa0 ?mk0 ?n0_0 ?n0_1 ?n0_2 ?q1 ?ex1 ?ty1 ?ic1 ?su1_1 ?su1_2 ?su1_3 ?su1_4 ?ga1 ?gg1 ?xd1 ?xn1_0 ?xn1_1 ?q2 ?ex2 ?ty2 ?ic2 ?su2_1 ?su2_2 ?su2_3 ?su2_4 ?ga2 ?gg2 ?xd2 ?xn2_0 ?xn2_1 ?ex3 ?ty3 ?ic3 ?su3_1 ?su3_2 ?su3_3 ?su3_4 ?ga3 ?gg3 ?xd3 ?xn3_0 ?xn3_1 ?q4 ?ex4 ?ty4 ?ic4 ?su4_1 ?su4_2 ?su4_3 ?su4_4 ?ga4 ?gg4 ?xd4 ?xn4_0 ?xn4_1 ?xL3 ?xr3 ?xs3 ?xi3 ?xt3 ?lx3 ?cx3 ?kx3 ?b0 ?b1 ?b2 ?b3 ?b4 ?b5 ?b6 ?b7 ?b8 ?b9 ?kg0 ?kl0 ?kw0 ?kh0_0_h ?kh0_1_h ?kh0_2_h ?kh0_3_h ?kh0_4_h ?m0 ?m1 ?m2 ?m3 ?m4 ?m5 ?mt5 ?m6 ?m7 ?m9 ?mt9 ?nl
    (case aC0 => k_is)
    (case kC0 => k_is)
    (case aC1 => k_is)
    (case kC1 => k_is)
    (case aC2 => k_is)
    (case kC2 => k_is)
    (case aC3 => k_is)
    (case kC3 => k_is)
    (case aC4 => k_is)
    (case kC4 => k_is)
    (case a0_38 => k_is)
    (case a0_39 => k_is)
    (case a0 => k_is)
    (case l0 => k_is)
    (case c0 => k_is)
    (case k0 => k_is)
    (case a1 => k_is)
    (case l1 => k_is)
    (case c1 => k_is)
    (case k1 => k_is)
    (case a2 => k_is)
    (case l2 => k_is)
    (case c2 => k_is)
    (case k2 => k_is)
    (case a3 => k_is)
    (case l3 => k_is)
    (case c3 => k_is)
    (case k3 => k_is)
    (case a4 => k_is)
    (case l4 => k_is)
    (case c4 => k_is)
    (case k4 => k_is)
    (case a5 => k_is)
    (case l5 => k_is)
    (case c5 => k_is)
    (case k5 => k_is)
    (case a6 => k_is)
    (case l6 => k_is)
    (case c6 => k_is)
    (case k6 => k_is)
    (case a7 => k_is)
    (case l7 => k_is)
    (case c7 => k_is)
    (case k7 => k_is)
    (case a8 => k_is)
    (case l8 => k_is)
    (case c8 => k_is)
    (case k8 => k_is)
    (case a9 => k_is)
    (case l9 => k_is)
    (case c9 => k_is)
    (case k9 => k_is)
    (case a10 => k_is)
    (case l10 => k_is)
    (case c10 => k_is)
    (case k10 => k_is)
    (case a11 => k_is)
    (case l11 => k_is)
    (case c11 => k_is)
    (case k11 => k_is)
    (case a12 => k_is)
    (case l12 => k_is)
    (case c12 => k_is)
    (case k12 => k_is)
    (case a13 => k_is)
    (case l13 => k_is)
    (case c13 => k_is)
    (case k13 => k_is)
    (case a14 => k_is)
    (case l14 => k_is)
    (case c14 => k_is)
    (case k14 => k_is)
    (case a15 => k_is)
    (case l15 => k_is)
    (case c15 => k_is)
    (case k15 => k_is)
    (case a16 => k_is)
    (case l16 => k_is)
    (case c16 => k_is)
    (case k16 => k_is)
    (case a17 => k_is)
    (case l17 => k_is)
    (case c17 => k_is)
    (case k17 => k_is)
    (case a18 => k_is)
    (case l18 => k_is)
    (case c18 => k_is)
    (case k18 => k_is)
    (case a19 => k_is)
    (case l19 => k_is)
    (case c19 => k_is)
    (case k19 => k_is)
    (case a20 => k_is)
    (case l20 => k_is)
    (case c20 => k_is)
    (case k20 => k_is)
    (case a21 => k_is)
    (case l21 => k_is)
    (case c21 => k_is)
    (case k21 => k_is)
    (case a22 => k_is)
    (case l22 => k_is)
    (case c22 => k_is)
    (case k22 => k_is)
    (case a23 => k_is)
    (case l23 => k_is)
    (case c23 => k_is)
    (case k23 => k_is)
    (case a24 => k_is)
    (case l24 => k_is)
    (case c24 => k_is)
    (case k24 => k_is)
    (case a25 => k_is)
    (case l25 => k_is)
    (case c25 => k_is)
    (case k25 => k_is)
    (case a26 => k_is)
    (case l26 => k_is)
    (case c26 => k_is)
    (case k26 => k_is)
    (case a27 => k_is)
    (case l27 => k_is)
    (case c27 => k_is)
    (case k27 => k_is)
    (case a28 => k_is)
    (case l28 => k_is)
    (case c28 => k_is)
    (case k28 => k_is)
    (case a29 => k_is)
    (case l29 => k_is)
    (case c29 => k_is)
    (case k29 => k_is)
    (case a30 => k_is)
    (case l30 => k_is)
    (case c30 => k_is)
    (case k30 => k_is)
    (case a31 => k_is)
    (case l31 => k_is)
    (case c31 => k_is)
    (case k31 => k_is)
    (case a32 => k_is)
    (case l32 => k_is)
    (case c32 => k_is)
    (case k32 => k_is)
    (case a33 => k_is)
    (case l33 => k_is)
    (case c33 => k_is)
    (case k33 => k_is)
    (case a34 => k_is)
    (case l34 => k_is)
    (case c34 => k_is)
    (case k34 => k_is)
    (case a35 => k_is)
    (case l35 => k_is)
    (case c35 => k_is)
    (case k35 => k_is)
    (case a36 => k_is)
    (case l36 => k_is)
    (case c36 => k_is)
    (case k36 => k_is)
    (case a37 => k_is)
    (case l37 => k_is)
    (case c37 => k_is)
    (case k37 => k_is)
    (case i38 => k_is)
    (case l38 => k_is)
    (case c38 => k_is)
    (case k38 => k_is)
    (case i39 => k_is)
    (case l39 => k_is)
    (case c39 => k_is)
    (case k39 => k_is)
    (case pg0 => k_is)
    (case hd0 => k_is)
    (case po0 => k_is)
    (case sa0 => k_is)
    (case mk0 => k_is)
    (case n0_0 => k_is)
    (case n0_1 => k_is)
    (case n0_2 => k_is)
    (case q1 => k_exc)
    (case ex1 => k_is)
    (case ty1 => k_is)
    (case ic1 => k_is)
    (case su1_1 => k_is)
    (case su1_2 => k_is)
    (case su1_3 => k_is)
    (case su1_4 => k_is)
    (case ga1 => k_is)
    (case gg1 => k_is)
    (case xd1 => k_is)
    (case xn1_0 => k_is)
    (case xn1_1 => k_is)
    (case q2 => k_exc)
    (case ex2 => k_is)
    (case ty2 => k_is)
    (case ic2 => k_is)
    (case su2_1 => k_is)
    (case su2_2 => k_is)
    (case su2_3 => k_is)
    (case su2_4 => k_is)
    (case ga2 => k_is)
    (case gg2 => k_is)
    (case xd2 => k_is)
    (case xn2_0 => k_is)
    (case xn2_1 => k_is)
    (case ex3 => k_is)
    (case ty3 => k_is)
    (case ic3 => k_is)
    (case su3_1 => k_is)
    (case su3_2 => k_is)
    (case su3_3 => k_is)
    (case su3_4 => k_is)
    (case ga3 => k_is)
    (case gg3 => k_is)
    (case xd3 => k_is)
    (case xn3_0 => k_is)
    (case xn3_1 => k_is)
    (case q4 => k_exc)
    (case ex4 => k_is)
    (case ty4 => k_is)
    (case ic4 => k_is)
    (case su4_1 => k_is)
    (case su4_2 => k_is)
    (case su4_3 => k_is)
    (case su4_4 => k_is)
    (case ga4 => k_is)
    (case gg4 => k_is)
    (case xd4 => k_is)
    (case xn4_0 => k_is)
    (case xn4_1 => k_is)
    (case xL3 => k_is)
    (case xr3 => decide +kernel)
    (case xs3 => k_is)
    (case xi3 => k_is)
    (case xt3 => k_is)
    (case lx3 => k_is)
    (case cx3 => k_is)
    (case kx3 => k_is)
    (case b0 => k_is)
    (case b1 => k_is)
    (case b2 => k_is)
    (case b3 => k_is)
    (case b4 => k_is)
    (case b5 => k_is)
    (case b6 => k_is)
    (case b7 => k_is)
    (case b8 => k_is)
    (case b9 => k_is)
    (case kg0 => k_is)
    (case kl0 => k_is)
    (case kw0 => rfl)
    (case kh0_0_h => rfl)
    (case kh0_1_h => rfl)
    (case kh0_2_h => rfl)
    (case kh0_3_h => rfl)
    (case kh0_4_h => rfl)
    (case m0 => k_is)
    (case m1 => k_is)
    (case m2 => k_is)
    (case m3 => k_is)
    (case m4 => k_is)
    (case m5 => k_is)
    (case mt5 => k_is)
    (case m6 => k_is)
    (case m7 => k_is)
    (case m9 => k_is)
    (case mt9 => k_is)
    (case nl => rfl)
