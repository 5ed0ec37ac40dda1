import PyProof.Rows.All
import Wide.All
import OpenK.AllK
import Wide.FinOn
import HandS.ForMost
import HandS.ForExc
import HandS.ExcInit
import HandS.TryMany
import HandS.CallLocal
import HandS.Small
import HandS.IsInst
import HandS.Flow
import HandS.RaiseMore
import HandS.TupAny
import HandS.Deep
import HandS.TupMul
import HandS.SortInts
import HandS.DictComp
import HandS.SetKeys
import HandS.Rev
import HandS.Zip
import KE.KDictZip
import HandS.Zip0
import HandS.OwnIter
import PyProof.ListNew
import PyProof.StrBlock2
import PyProof.Rows.StrJoinRep
import HandS.Style
import PySem.Challenge.RW_normalhouse_k02_tokens
set_option Elab.async false
set_option linter.all false
set_option maxRecDepth 100000
set_option maxHeartbeats 4000000
/-! Mini, part A: plain data (tuples by value), a store of mutable cells, how they lie in the abstract heap -/
namespace L2
namespace Mini
open PySem PySem.Spec PyProof.Rows
/-- plain data; a text is its list of codes; a list, a dict, an instance is known by its address -/
inductive D where
  | non | bl (b : Bool) | int (i : Int) | str (l : List Nat) | tup (ds : List D) | ref (a : Addr) | fn (f : Nat)
/-- keys of dicts -/
abbrev Ky := Sum Int (List Nat)
/-- what stands in the store: a list, a list that is only read (the script), a dict with int and text keys, an instance -/
inductive Cell where
  | lst (ds : List D) | fls (ds : List D) | dct (kvs : List (Ky × D)) | ins (c : Nat) (fs : List (Nat × D))
abbrev Sto := Addr → Option Cell
def Sto.upd (S : Sto) (a : Addr) (c : Cell) : Sto := fun b => if b = a then some c else S b
theorem Sto.upd_same {S : Sto} {a : Addr} {c : Cell} : S.upd a c a = some c := by unfold Sto.upd; rw [if_pos rfl]
theorem Sto.upd_ne {S : Sto} {a b : Addr} {c : Cell} (h : b ≠ a) : S.upd a c b = S b := by unfold Sto.upd; rw [if_neg h]
/-- names by number: attributes, classes, functions -/
structure Nm where
  K : PySem.W.Frag
  fld : Nat → Str
  cla : Nat → Addr
  fa : Nat → Addr
  mn : Nat → Str
  nc : Nat
  nx : Nat
  nf : Nat
  nfx : Nat
  fnn : Nat → Str
  cln : Nat → Str
  nob : List Str
  con : Nat → Option (Str × D)
  nfn : Nat
  xfl : Nat → List Nat
  ni : Nat → Bool
  inj : ∀ i j, i < nf → j < nf → fld i = fld j → i = j
  par : Option Params := none
  kdc : Nat → Option (Str × List (List Nat × D)) := fun _ => none
/-- a text's codes as the model has it -/
def st (l : List Nat) : Str := ⟨l.toArray⟩
theorem st_inj {a b : List Nat} (h : st a = st b) : a = b := by
  have q : a.toArray = b.toArray := congrArg Str.cps h
  simpa using congrArg Array.toList q
theorem st_cps (l : List Nat) : (st l).cps.toList = l := by simp [st]
theorem st_of (x : Str) : st x.cps.toList = x := by cases x; simp [st]
theorem st_length (l : List Nat) : (st l).length = l.length := by
  show (st l).cps.size = l.length
  simp [st]
/-- a tuple stands at a: tracked, or of the module -/
def TupAt (K : PySem.W.Frag) (H : Hp) (a : Addr) (vs : List V) : Prop :=
  H a = some (.tup vs) ∨ ∃ (o : Obj) (its : Array Value) (n : Nat), K.lookup a = some o ∧ o.cls = .type "tuple" ∧ o.data = .seq its n ∧ its.size ≤ sizeLine ∧ Vals vs its.toList
theorem TupAt.sq {K : PySem.W.Frag} {H : Hp} {a : Addr} {vs : List V} (h : TupAt K H a vs) : SqT K H a vs := by
  rcases h with h | h
  · exact SqT.of h
  · exact .inr h
mutual
inductive RD (Z : Nm) (H : Hp) : D → V → Prop
  | non : RD Z H .non .non
  | bl {b} : RD Z H (.bl b) (.bl b)
  | int {i} : RD Z H (.int i) (.int i)
  | str {l} : RD Z H (.str l) (.str (st l))
  | tup {ds vs a} : TupAt Z.K H a vs → RDs Z H ds vs → RD Z H (.tup ds) (.ref a)
  | ref {a} : RD Z H (.ref a) (.ref a)
  | fn {f} : RD Z H (.fn f) (.ref (Z.fa f))
inductive RDs (Z : Nm) (H : Hp) : List D → List V → Prop
  | nil : RDs Z H [] []
  | cons {d v ds vs} : RD Z H d v → RDs Z H ds vs → RDs Z H (d :: ds) (v :: vs)
end
/-- the tuples stay -/
def TK (H H' : Hp) : Prop := ∀ a vs, H a = some (.tup vs) → H' a = some (.tup vs)
theorem TK.refl (H : Hp) : TK H H := fun _ _ h => h
theorem TK.trans {H H1 H2 : Hp} (a : TK H H1) (b : TK H1 H2) : TK H H2 := fun c vs h => b c vs (a c vs h)
theorem TupAt.keep {K : PySem.W.Frag} {H H' : Hp} {a : Addr} {vs : List V} (k : TK H H') (h : TupAt K H a vs) : TupAt K H' a vs := by
  rcases h with h | h
  · exact .inl (k a vs h)
  · exact .inr h
mutual
theorem RD.keep {Z : Nm} {H H' : Hp} (k : TK H H') : ∀ {d : D} {v : V}, RD Z H d v → RD Z H' d v
  | _, _, .non => .non
  | _, _, .bl => .bl
  | _, _, .int => .int
  | _, _, .str => .str
  | _, _, .tup t r => .tup (t.keep k) (RDs.keep k r)
  | _, _, .ref => .ref
  | _, _, .fn => .fn
theorem RDs.keep {Z : Nm} {H H' : Hp} (k : TK H H') : ∀ {ds : List D} {vs : List V}, RDs Z H ds vs → RDs Z H' ds vs
  | _, _, .nil => .nil
  | _, _, .cons r t => .cons (RD.keep k r) (RDs.keep k t)
end
section
variable {Z : Nm} {H : Hp}
theorem RDs.length : ∀ {ds : List D} {vs : List V}, RDs Z H ds vs → ds.length = vs.length
  | _, _, .nil => rfl
  | _, _, .cons _ t => congrArg Nat.succ (RDs.length t)
theorem RDs.append : ∀ {ds es : List D} {vs us : List V}, RDs Z H ds vs → RDs Z H es us → RDs Z H (ds ++ es) (vs ++ us)
  | _, _, _, _, .nil, s => s
  | _, _, _, _, .cons r t, s => .cons r (RDs.append t s)
theorem RDs.get : ∀ {ds : List D} {vs : List V} {i : Nat} {d : D}, RDs Z H ds vs → ds[i]? = some d → ∃ v, vs[i]? = some v ∧ RD Z H d v
  | _, _, _, _, .nil, e => by simp at e
  | _, _, 0, _, .cons r _, e => by simp at e; subst e; exact ⟨_, rfl, r⟩
  | _, _, i + 1, d, .cons _ t, e => by
    obtain ⟨v, h1, h2⟩ := RDs.get (i := i) (d := d) t (by simpa using e)
    exact ⟨v, by simpa using h1, h2⟩
theorem RDs.getV : ∀ {ds : List D} {vs : List V} {i : Nat} {v : V}, RDs Z H ds vs → vs[i]? = some v → ∃ d, ds[i]? = some d ∧ RD Z H d v
  | _, _, _, _, .nil, e => by simp at e
  | _, _, 0, _, .cons r _, e => by simp at e; subst e; exact ⟨_, rfl, r⟩
  | _, _, i + 1, d, .cons _ t, e => by
    obtain ⟨v, h1, h2⟩ := RDs.getV (i := i) (v := d) t (by simpa using e)
    exact ⟨v, by simpa using h1, h2⟩
theorem RDs.take : ∀ {ds : List D} {vs : List V} (n : Nat), RDs Z H ds vs → RDs Z H (ds.take n) (vs.take n)
  | _, _, 0, _ => .nil
  | _, _, _ + 1, .nil => .nil
  | _, _, n + 1, .cons r t => .cons r (RDs.take n t)
theorem RDs.drop : ∀ {ds : List D} {vs : List V} (n : Nat), RDs Z H ds vs → RDs Z H (ds.drop n) (vs.drop n)
  | _, _, 0, r => r
  | _, _, _ + 1, .nil => .nil
  | _, _, n + 1, .cons _ t => RDs.drop n t
theorem RDs.set {d : D} {v : V} (r : RD Z H d v) : ∀ {ds : List D} {vs : List V} (i : Nat), RDs Z H ds vs → RDs Z H (ds.set i d) (vs.set i v)
  | _, _, _, .nil => .nil
  | _, _, 0, .cons _ t => .cons r t
  | _, _, i + 1, .cons q t => .cons q (RDs.set r i t)
theorem RDs.dropLast : ∀ {ds : List D} {vs : List V}, RDs Z H ds vs → RDs Z H ds.dropLast vs.dropLast
  | _, _, .nil => .nil
  | _, _, .cons _ .nil => .nil
  | _, _, .cons r (.cons q t) => .cons r (RDs.dropLast (.cons q t))
theorem RDs.eraseIdx : ∀ {ds : List D} {vs : List V} (i : Nat), RDs Z H ds vs → RDs Z H (ds.eraseIdx i) (vs.eraseIdx i)
  | _, _, _, .nil => .nil
  | _, _, 0, .cons r t => t
  | _, _, i + 1, .cons r t => .cons r (RDs.eraseIdx i t)
theorem RDs.reverse {ds : List D} {vs : List V} (h : RDs Z H ds vs) : RDs Z H ds.reverse vs.reverse := by
  induction ds generalizing vs with
  | nil => cases h; exact .nil
  | cons d ds ih =>
    cases h with
    | cons r t =>
      rw [List.reverse_cons, List.reverse_cons]
      exact (ih t).append (.cons r .nil)
theorem RDs.nil_iff {ds : List D} {vs : List V} (h : RDs Z H ds vs) : ds = [] ↔ vs = [] := by cases h <;> simp
theorem RDs.one {d : D} {vs : List V} (h : RDs Z H [d] vs) : ∃ v, vs = [v] ∧ RD Z H d v := by
  cases h with
  | cons r t => cases t; exact ⟨_, rfl, r⟩
theorem RDs.two {d e : D} {vs : List V} (h : RDs Z H [d, e] vs) : ∃ v u, vs = [v, u] ∧ RD Z H d v ∧ RD Z H e u := by
  cases h with
  | cons r t => cases t with | cons r2 t => cases t; exact ⟨_, _, rfl, r, r2⟩
theorem RDs.rep {ds : List D} {vs : List V} (h : RDs Z H ds vs) : ∀ k : Nat, RDs Z H (List.replicate k ds).flatten (List.replicate k vs).flatten
  | 0 => .nil
  | k + 1 => by simp only [List.replicate_succ, List.flatten_cons]; exact h.append (RDs.rep h k)
end
/-- keys -/
def kyS : Ky → Key
  | .inl i => .inl i
  | .inr l => .inr (st l)
theorem kyS_inj {a b : Ky} (h : kyS a = kyS b) : a = b := by
  cases a with
  | inl i => cases b with
    | inl j => exact congrArg Sum.inl (Sum.inl.inj h)
    | inr l => exact nomatch h
  | inr k => cases b with
    | inl j => exact nomatch h
    | inr l => exact congrArg Sum.inr (st_inj (Sum.inr.inj h))
/-- attributes, pairs of a dict -/
inductive RF (Z : Nm) (H : Hp) : List (Nat × D) → List (Str × V) → Prop
  | nil : RF Z H [] []
  | cons {i d v fs gs} : i < Z.nf → RD Z H d v → RF Z H fs gs → RF Z H ((i, d) :: fs) ((Z.fld i, v) :: gs)
inductive RK (Z : Nm) (H : Hp) : List (Ky × D) → List (Key × V) → Prop
  | nil : RK Z H [] []
  | cons {k d v ks gs} : RD Z H d v → RK Z H ks gs → RK Z H ((k, d) :: ks) ((kyS k, v) :: gs)
theorem RF.keep {Z : Nm} {H H' : Hp} (k : TK H H') : ∀ {fs : List (Nat × D)} {gs : List (Str × V)}, RF Z H fs gs → RF Z H' fs gs
  | _, _, .nil => .nil
  | _, _, .cons l r t => .cons l (r.keep k) (RF.keep k t)
theorem RK.keep {Z : Nm} {H H' : Hp} (k : TK H H') : ∀ {fs : List (Ky × D)} {gs : List (Key × V)}, RK Z H fs gs → RK Z H' fs gs
  | _, _, .nil => .nil
  | _, _, .cons r t => .cons (r.keep k) (RK.keep k t)
def CellAt (Z : Nm) (H : Hp) (a : Addr) : Cell → Prop
  | .lst ds => ∃ vs, H a = some (.lst vs) ∧ RDs Z H ds vs
  | .fls ds => ∃ o vs, H a = some (.frz o (.lst vs)) ∧ RDs Z H ds vs
  | .dct kvs => ∃ gs, H a = some (.dK gs) ∧ RK Z H kvs gs
  | .ins c fs => c < Z.nc ∧ ∃ dx gs, H a = some (.ins (Z.cla c) dx gs) ∧ RF Z H fs gs
def SR (Z : Nm) (S : Sto) (H : Hp) : Prop := ∀ a c, S a = some c → CellAt Z H a c
theorem CellAt.has {Z : Nm} {H : Hp} {a : Addr} {c : Cell} (h : CellAt Z H a c) : ∃ o, H a = some o := by
  cases c with
  | lst ds => obtain ⟨_, e, _⟩ := h; exact ⟨_, e⟩
  | fls ds => obtain ⟨_, _, e, _⟩ := h; exact ⟨_, e⟩
  | dct kvs => obtain ⟨_, e, _⟩ := h; exact ⟨_, e⟩
  | ins c fs => obtain ⟨_, _, _, e, _⟩ := h; exact ⟨_, e⟩
theorem SR.free {Z : Nm} {S : Sto} {H : Hp} (h : SR Z S H) {p : Addr} (n : H p = none) : S p = none := by
  cases e : S p with
  | none => rfl
  | some c => obtain ⟨o, q⟩ := CellAt.has (h p c e); rw [n] at q; cases q
theorem CellAt.keep {Z : Nm} {H H' : Hp} {a : Addr} {c : Cell} (h : CellAt Z H a c) (k : TK H H') (e : ∀ o, H a = some o → H' a = some o) : CellAt Z H' a c := by
  cases c with
  | lst ds => obtain ⟨vs, q, r⟩ := h; exact ⟨vs, e _ q, r.keep k⟩
  | fls ds => obtain ⟨o, vs, q, r⟩ := h; exact ⟨o, vs, e _ q, r.keep k⟩
  | dct kvs => obtain ⟨gs, q, r⟩ := h; exact ⟨gs, e _ q, r.keep k⟩
  | ins c fs => obtain ⟨n, dx, gs, q, r⟩ := h; exact ⟨n, dx, gs, e _ q, r.keep k⟩
/-- a new object -/
theorem TK.new {H : Hp} {p : Addr} {o : HO} (n : H p = none) : TK H (upd H p o) := fun a vs h => by rw [upd_ne (ne_of_none h n)]; exact h
theorem SR.same {Z : Nm} {S : Sto} {H H' : Hp} (h : SR Z S H) (e : ∀ a o, H a = some o → H' a = some o) : SR Z S H' := fun a c q =>
  CellAt.keep (h a c q) (fun b vs z => e b _ z) fun o z => e a o z
theorem new_same {H : Hp} {p : Addr} {o : HO} (n : H p = none) : ∀ a u, H a = some u → upd H p o a = some u := fun a u h => by rw [upd_ne (ne_of_none h n)]; exact h
theorem SR.new {Z : Nm} {S : Sto} {H : Hp} {p : Addr} {o : HO} (h : SR Z S H) (n : H p = none) : SR Z S (upd H p o) := h.same (new_same n)
/-- what is mutable -/
def Mu : HO → Prop
  | .lst _ => True
  | .dK _ => True
  | .ins _ _ _ => True
  | _ => False
theorem TK.mut {H : Hp} {p : Addr} {o o' : HO} (e : H p = some o) (m : Mu o) : TK H (upd H p o') := fun a vs h => by
  rw [upd_ne (fun z => by subst z; rw [h] at e; cases e; exact m)]; exact h
/-- a cell written over what was new or mutable -/
theorem SR.put {Z : Nm} {S : Sto} {H : Hp} {p : Addr} {o : HO} {c : Cell} (h : SR Z S H) (k : TK H (upd H p o)) (new : CellAt Z (upd H p o) p c) : SR Z (S.upd p c) (upd H p o) := fun a d q => by
  by_cases e : a = p
  · subst e; rw [Sto.upd_same] at q; cases q; exact new
  · rw [Sto.upd_ne e] at q
    exact CellAt.keep (h a d q) k fun u z => by rw [upd_ne e]; exact z
end Mini
end L2
/-! Mini, part B: the small language and what must hold so that a run of it ends as wanted -/
namespace L2
namespace Mini
open PySem PySem.Spec PyProof.Rows
inductive Bop where | add | sub | mul | fdiv | mod | pow
inductive Cop where | eq | ne | lt | le | gt | ge | is_ | isnot | in_ | notin
/-- built-in functions and classes called -/
inductive Bi where | len | int | max | min | sum | all | any | tuple | list | sortset | repr | str | abs | dict0 | sorted | dict
/-- built-in methods -/
inductive Bm where | append | pop | extend | count | index | split | join | startswith
/-- classes that isinstance asks for -/
inductive Ty where | int | bool | str | tuple | list | exc (c : Nat)
/-- targets: a name, a tuple of names -/
inductive Tg where | nm (i : Nat) | tp (is : List Nat)
mutual
inductive Ex where
  | var (i : Nat) | lit (d : D) | bin (op : Bop) (a b : Ex) | neg (a : Ex) | cmp (op : Cop) (a b : Ex) | chn (o1 o2 : Cop) (a b c : Ex)
  | and (a b : Ex) | or (a b : Ex) | not (a : Ex) | ite (c a b : Ex) | tup (es : Exs) | lst (es : Exs) | dct (ps : Exs) | ix (a i : Ex) | slc (a : Ex) (lo hi : Exo) | rev (a : Ex)
  | att (a : Ex) (f : Nat) | call (f : Nat) (es : Exs) | callv (i : Nat) (es : Exs) | bi (b : Bi) (es : Exs) | isi (a : Ex) (t : Ty) | isi2 (a : Ex) (t u : Ty) | mth (m : Nat) (o : Ex) (es : Exs) | bm (m : Bm) (o : Ex) (es : Exs)
  | new (c : Nat) (es : Exs) | newo (c : Nat) | lc (e : Ex) (t : Tg) (it : Itr) (c : Exo) | dc (k v : Ex) (t : Tg) (it : Itr) (c : Exo) | kin (neg : Bool) (a : Ex) (kvs : List (List Nat × D)) | kix (kvs : List (List Nat × D)) (a : Ex) | lzip (a b : Ex)
inductive Exs where | nil | cons (e : Ex) (es : Exs)
inductive Exo where | none | some (e : Ex)
/-- what a loop goes over -/
inductive Itr where | sq (e : Ex) | rng (b : Ex) | rng2 (a b : Ex) | enum (e : Ex) | zip (a b : Ex)
end
/-- an except suite -/
inductive Se where | lit (d : D) | exf (i f : Nat) | exf2 (i f g : Nat)
inductive Su where | ret (e : Se) | cnt | pass | set (i : Nat) (d : D)
mutual
inductive Stm where
  | set (i : Nat) (e : Ex) | unp (is : List Nat) (e : Ex) | unpl (is : List Nat) (e : Ex) | unpa (o : Ex) (f : Nat) (o2 : Ex) (f2 : Nat) (e : Ex) | setix (o i e : Ex) | setat (o : Ex) (f : Nat) (e : Ex) | aug (i : Nat) (op : Bop) (e : Ex) | augat (o : Ex) (f : Nat) (op : Bop) (e : Ex)
  | ife (c : Ex) (a b : Stms) | whl (c : Ex) (b : Stms) | for_ (t : Tg) (it : Itr) (b : Stms) | ret (e : Ex) | brk | cnt | pass | ex (e : Ex) | raise (c : Nat) (es : Exs) | try_ (b : Stms) (hs : List (Nat × Su))
inductive Stms where | nil | cons (s : Stm) (ss : Stms)
end
abbrev Env := List (Option D)
def Env.get (σ : Env) (i : Nat) : Option D := match σ[i]? with | some (some d) => some d | _ => none
/-- an exception: its class, its fields -/
structure Xn where
  c : Nat
  fs : List (Nat × D)
abbrev QD := D → Sto → Prop
abbrev QX := Xn → Sto → Prop
abbrev Spec := List D → Sto → QD → QX → Prop
/-- what the defs promise; fn: by number; ini: the __init__ of a class (one level lower); mt: which def a class has by a method's name; xcls: the fields of an exception's class; xsub: subclasses -/
structure Gam where
  fn : Nat → Spec
  ini : Nat → Spec
  mt : Nat → Nat → Option Nat
  xfl : Nat → List Nat
  xsub : Nat → Nat → Bool
  nfn : Nat
/-! ### values -/
def rd (S : Sto) (a : Addr) : Option (List D) := match S a with | some (.lst ds) => some ds | some (.fls ds) => some ds | _ => none
def tru (S : Sto) : D → Option Bool
  | .non => some false
  | .bl b => some b
  | .int i => some (i != 0)
  | .str _ => none
  | .tup ds => some (!ds.isEmpty)
  | .ref a => (rd S a).map fun ds => !ds.isEmpty
  | .fn _ => none
mutual
/-- the data as the library's equality has it -/
inductive PD (S : Sto) : D → PyData → Prop
  | non : PD S .non .none
  | bl {b} : PD S (.bl b) (.bool b)
  | int {i} : PD S (.int i) (.int i)
  | str {l : List Nat} : l.all (fun c => decide (c < 0x110000)) = true → PD S (.str l) (.str (st l))
  | tup {ds ps} : PDs S ds ps → PD S (.tup ds) (.tuple ps)
  | ref {a ds ps} : rd S a = some ds → PDs S ds ps → PD S (.ref a) (.list ps)
inductive PDs (S : Sto) : List D → List PyData → Prop
  | nil : PDs S [] []
  | cons {d p ds ps} : PD S d p → PDs S ds ps → PDs S (d :: ds) (p :: ps)
end
/-- room for an equality -/
def eqRoom (p q : PyData) : Prop := min p.depth q.depth ≤ 190
/-- the answer of x == y -/
inductive Eqv (S : Sto) : D → D → Bool → Prop
  | int {i j} : Eqv S (.int i) (.int j) (i == j)
  | str {a b} : Eqv S (.str a) (.str b) (a == b)
  | dat {x y p q} : PD S x p → PD S y q → eqRoom p q → Eqv S x y (PyData.eqv p q)
def eqW (x y : D) (neg : Bool) (S : Sto) (Q : QD) : Prop :=
  match x, y with
  | .int i, .int j => Q (.bl (neg ^^ (i == j))) S
  | .str a, .str b => Q (.bl (neg ^^ (a == b))) S
  | x, y => ∃ r, Eqv S x y r ∧ Q (.bl (neg ^^ r)) S
def seqOf (S : Sto) : D → Option (List D)
  | .tup ds => some ds
  | .ref a => rd S a
  | _ => none
/-- x in y -/
def dget (kvs : List (Ky × D)) (k : Ky) : Option D := (kvs.find? fun p => decide (p.1 = k)).map (·.2)
def inW (x y : D) (neg : Bool) (S : Sto) (Q : QD) : Prop :=
  match x, y with
  | .str [c], .str b => Q (.bl (neg ^^ b.contains c)) S
  | x, .ref a => match S a with
    | some (.dct kvs) => match x with
      | .int i => Q (.bl (neg ^^ (dget kvs (.inl i)).isSome)) S
      | .str l => Q (.bl (neg ^^ (dget kvs (.inr l)).isSome)) S
      | _ => False
    | some (.lst ds) => ∃ r, InL S x ds r ∧ Q (.bl (neg ^^ r)) S
    | some (.fls ds) => ∃ r, InL S x ds r ∧ Q (.bl (neg ^^ r)) S
    | _ => False
  | x, .tup ds => ∃ r, InL S x ds r ∧ Q (.bl (neg ^^ r)) S
  | _, _ => False
where InL (S : Sto) (x : D) (ds : List D) (r : Bool) : Prop := ∃ p ps, PD S x p ∧ PDs S ds ps ∧ p.depth ≤ 180 ∧ r = ps.any fun q => PyData.eqv q p
def cmpW (op : Cop) (x y : D) (S : Sto) (Q : QD) : Prop :=
  match op with
  | .eq => eqW x y false S Q
  | .ne => eqW x y true S Q
  | .lt => match x, y with | .int i, .int j => Q (.bl (decide (i < j))) S | _, _ => False
  | .le => match x, y with | .int i, .int j => Q (.bl (decide (i ≤ j))) S | _, _ => False
  | .gt => match x, y with | .int i, .int j => Q (.bl (decide (j < i))) S | _, _ => False
  | .ge => match x, y with | .int i, .int j => Q (.bl (decide (j ≤ i))) S | _, _ => False
  | .is_ => match x, y with | .non, .non => Q (.bl true) S | _, .non => Q (.bl false) S | _, _ => False
  | .isnot => match x, y with | .non, .non => Q (.bl false) S | _, .non => Q (.bl true) S | _, _ => False
  | .in_ => inW x y false S Q
  | .notin => inW x y true S Q
/-- a new list, a new dict .. -/
def newW (c : Cell) (S : Sto) (Q : QD) : Prop := ∀ p, S p = none → Q (.ref p) (S.upd p c)
def smallI (i : Int) : Prop := -(2 ^ 64) < i ∧ i < 2 ^ 64
def binW (op : Bop) (x y : D) (S : Sto) (Q : QD) : Prop :=
  match op, x, y with
  | .add, .int i, .int j => Q (.int (i + j)) S
  | .add, .str a, .str b => a.length + b.length ≤ sizeLine ∧ Q (.str (a ++ b)) S
  | .add, .tup a, .tup b => a.length + b.length ≤ sizeLine ∧ Q (.tup (a ++ b)) S
  | .add, .ref a, .ref b => ∃ xs ys, S a = some (.lst xs) ∧ S b = some (.lst ys) ∧ xs.length + ys.length ≤ sizeLine ∧ newW (.lst (xs ++ ys)) S Q
  | .sub, .int i, .int j => Q (.int (i - j)) S
  | .mul, .int i, .int j => (smallI i ∨ smallI j) ∧ Q (.int (i * j)) S
  | .mul, .ref a, .int k => ∃ xs, S a = some (.lst xs) ∧ -(2 ^ 63) ≤ k ∧ k < 2 ^ 63 ∧ xs.length * k.toNat ≤ sizeLine ∧ newW (.lst (List.replicate k.toNat xs).flatten) S Q
  | .mul, .tup xs, .int k => xs ≠ [] ∧ 2 ≤ k ∧ k ≤ 1000 ∧ xs.length ≤ 1000 ∧ Q (.tup (List.replicate k.toNat xs).flatten) S
  | .mul, .str [c], .int k => 0 ≤ k ∧ k ≤ 1000000 ∧ Q (.str (List.replicate k.toNat c)) S
  | .fdiv, .int i, .int j => j ≠ 0 ∧ j.natAbs < 1073741824 ∧ Q (.int (i.fdiv j)) S
  | .mod, .int i, .int j => j ≠ 0 ∧ Q (.int (i.fmod j)) S
  | .pow, .int i, .int j => 0 ≤ j ∧ j ≤ 1000000 ∧ i.natAbs < 2 ^ 64 ∧ Q (.int (i ^ j.toNat)) S
  | _, _, _ => False
/-- a op= b, b not a list -/
def augW (op : Bop) (x y : D) (S : Sto) (Q : QD) : Prop :=
  match op, x, y with
  | .add, .int i, .int j => Q (.int (i + j)) S
  | .add, .str a, .str b => a.length + b.length ≤ sizeLine ∧ Q (.str (a ++ b)) S
  | .sub, .int i, .int j => Q (.int (i - j)) S
  | .add, .tup a, .tup b => a.length + b.length ≤ sizeLine ∧ Q (.tup (a ++ b)) S
  | _, _, _ => False
def ixW (x y : D) (S : Sto) (Q : QD) : Prop :=
  match x, y with
  | .tup ds, .int i => ∃ d, atI ds i = some d ∧ Q d S
  | .str l, .int i => l.length ≤ sizeLine ∧ ∃ c, atI l i = some c ∧ Q (.str [c]) S
  | .ref a, y => match S a, y with
    | some (.lst ds), .int i => ∃ d, atI ds i = some d ∧ Q d S
    | some (.fls ds), .int i => ∃ d, atI ds i = some d ∧ Q d S
    | some (.dct kvs), .int i => ∃ d, dget kvs (.inl i) = some d ∧ Q d S
    | some (.dct kvs), .str l => ∃ d, dget kvs (.inr l) = some d ∧ Q d S
    | _, _ => False
  | _, _ => False
def cutD {α : Type} (xs : List α) (lo hi : Option Int) : List α := (xs.drop (HT.sIx xs.length 0 lo)).take (HT.sIx xs.length xs.length hi - HT.sIx xs.length 0 lo)
def slW (x : D) (lo hi : Option Int) (S : Sto) (Q : QD) : Prop :=
  match x with
  | .tup ds => Q (.tup (cutD ds lo hi)) S
  | .str l => l.length ≤ sizeLine ∧ Q (.str (cutD l lo hi)) S
  | .ref a => ∃ ds, rd S a = some ds ∧ newW (.lst (cutD ds lo hi)) S Q
  | _ => False
def revW (x : D) (S : Sto) (Q : QD) : Prop :=
  match x with
  | .tup ds => Q (.tup ds.reverse) S
  | .ref a => ∃ ds, rd S a = some ds ∧ newW (.lst ds.reverse) S Q
  | _ => False
/-- d[k] = v -/
def dput (kvs : List (Ky × D)) (k : Ky) (v : D) : List (Ky × D) := if (kvs.any fun p => decide (p.1 = k)) = true then kvs.map (fun p => if p.1 = k then (p.1, v) else p) else kvs ++ [(k, v)]
def setixW (o i v : D) (S : Sto) (Q : Sto → Prop) : Prop :=
  match o with
  | .ref a => match S a, i with
    | some (.lst ds), .int k => ∃ j, ixN ds.length k = some j ∧ Q (S.upd a (.lst (ds.set j v)))
    | some (.dct kvs), .int k => kvs.length < sizeLine ∧ Q (S.upd a (.dct (dput kvs (.inl k) v)))
    | some (.dct kvs), .str l => kvs.length < sizeLine ∧ Q (S.upd a (.dct (dput kvs (.inr l) v)))
    | _, _ => False
  | _ => False
def fget : List (Nat × D) → Nat → Option D
  | [], _ => none
  | (g, u) :: r, f => if f = g then some u else fget r f
def fput (f : Nat) (v : D) : List (Nat × D) → List (Nat × D)
  | [] => [(f, v)]
  | (g, u) :: r => if g = f then (f, v) :: r else (g, u) :: fput f v r
def dmerge (kvs more : List (Ky × D)) : List (Ky × D) := more.foldl (fun acc kv => dput acc kv.1 kv.2) kvs
def kyOf : D → Option Ky
  | .int i => some (.inl i)
  | .str l => some (.inr l)
  | _ => none
/-- o.f = v -/
def putatW (x : D) (f : Nat) (v : D) (S : Sto) (Q : Sto → Prop) : Prop :=
  match x with
  | .ref p => match S p with
    | some (.ins c fs) => fs.length < 1000 ∧ Q (S.upd p (.ins c (fput f v fs)))
    | _ => False
  | _ => False
def isiW (x : D) (t : Ty) (S : Sto) : Option Bool :=
  match t, x with
  | .int, .int _ => some true
  | .int, .bl _ => some true
  | .bool, .bl _ => some true
  | .str, .str _ => some true
  | .tuple, .tup _ => some true
  | .list, .ref a => match S a with | some (.lst _) => some true | some (.fls _) => some true | some (.dct _) => some false | _ => none
  | .exc _, _ => none
  | _, .ref a => match S a with | some (.lst _) => some false | some (.fls _) => some false | some (.dct _) => some false | _ => none
  | _, .fn _ => none
  | _, _ => some false
def intsOf : List D → Option (List Int)
  | [] => some []
  | .int i :: r => (intsOf r).map (i :: ·)
  | _ => none
def blsOf : List D → Option (List Bool)
  | [] => some []
  | .bl i :: r => (blsOf r).map (i :: ·)
  | _ => none
/-- a whole number's text -/
def istr (i : Int) : List Nat := ((toString i : String) : Str).cps.toList
def biW (b : Bi) (xs : List D) (S : Sto) (Q : QD) : Prop :=
  match b, xs with
  | .len, [.str l] => l.length ≤ sizeLine ∧ Q (.int l.length) S
  | .len, [.tup ds] => Q (.int ds.length) S
  | .len, [.ref a] => match S a with
    | some (.lst ds) => Q (.int ds.length) S
    | some (.fls ds) => Q (.int ds.length) S
    | some (.dct kvs) => Q (.int kvs.length) S
    | _ => False
  | .int, [.int i] => Q (.int i) S
  | .int, [.bl k] => Q (.int (if k then 1 else 0)) S
  | .int, [.str l] => ∃ n, PySem.intText? (st l) = some n ∧ l.length ≤ 640 ∧ Q (.int n) S
  | .max, [.int i, .int j] => Q (.int (if j > i then j else i)) S
  | .min, [.int i, .int j] => Q (.int (if j < i then j else i)) S
  | .max, [.ref a] => ∃ ds ns, rd S a = some ds ∧ intsOf ds = some ns ∧ 0 < ns.length ∧ ∀ m, m ∈ ns → (∀ y, y ∈ ns → y ≤ m) → Q (.int m) S
  | .min, [.ref a] => ∃ ds ns, rd S a = some ds ∧ intsOf ds = some ns ∧ 0 < ns.length ∧ ∀ m, m ∈ ns → (∀ y, y ∈ ns → m ≤ y) → Q (.int m) S
  | .sum, [.ref a] => ∃ ds ns, rd S a = some ds ∧ intsOf ds = some ns ∧ Q (.int ns.sum) S
  | .all, [.ref a] => ∃ ds bs, rd S a = some ds ∧ blsOf ds = some bs ∧ Q (.bl (bs.all id)) S
  | .any, [.ref a] => ∃ ds bs, rd S a = some ds ∧ blsOf ds = some bs ∧ Q (.bl (bs.any id)) S
  | .tuple, [.ref a] => ∃ ds, rd S a = some ds ∧ Q (.tup ds) S
  | .tuple, [.tup ds] => Q (.tup ds) S
  | .list, [.ref a] => ∃ ds, rd S a = some ds ∧ newW (.lst ds) S Q
  | .list, [.tup ds] => newW (.lst ds) S Q
  | .abs, [.int i] => Q (.int (if i < 0 then -i else i)) S
  | .str, [.int i] => i.natAbs.log2 < 1920 ∧ Q (.str (istr i)) S
  | .str, [.str l] => Q (.str l) S
  | .repr, [.int i] => i.natAbs.log2 < 1920 ∧ Q (.str (istr i)) S
  | .repr, [.bl b] => Q (.str (if b then [84, 114, 117, 101] else [70, 97, 108, 115, 101])) S
  | .sorted, [.ref a] => match S a with
    | some (.dct kvs) => (∃ ns : List Int, kvs.map (·.1) = ns.map Sum.inl ∧ ns.length < 64 ∧ ∀ ys : List Int, ys.Perm ns → ys.Pairwise (· ≤ ·) → newW (.lst (ys.map .int)) S Q) ∨ (∃ ls : List (List Nat), kvs.map (·.1) = ls.map Sum.inr ∧ ls.length < 64 ∧ ∀ ys : List (List Nat), ys.Perm ls → sortedS (ys.map st) = true → newW (.lst (ys.map .str)) S Q)
    | some (.lst ds) => (∃ ns, intsOf ds = some ns ∧ ∀ ys : List Int, ys.Perm ns → ys.Pairwise (· ≤ ·) → newW (.lst (ys.map .int)) S Q) ∨ (∃ ls : List (List Nat), ds = ls.map .str ∧ ls.length < 64 ∧ ∀ ys : List (List Nat), ys.Perm ls → sortedS (ys.map st) = true → newW (.lst (ys.map .str)) S Q)
    | _ => False
  | .dict, [.ref a] => match S a with
    | some (.dct kvs) => newW (.dct kvs) S Q
    | _ => False
  | _, _ => False
/-- the receiver's class, ahead of the arguments -/
def bmTy (m : Bm) (o : D) (S : Sto) : Prop :=
  match m, o with
  | .count, .str _ => True
  | .split, .str _ => True
  | .join, .str _ => True
  | .startswith, .str _ => True
  | .append, .ref a => ∃ ds, S a = some (.lst ds)
  | .pop, .ref a => ∃ ds, S a = some (.lst ds)
  | .extend, .ref a => ∃ ds, S a = some (.lst ds)
  | .index, .ref a => ∃ ds, S a = some (.lst ds)
  | _, _ => False
def bmW (m : Bm) (o : D) (xs : List D) (S : Sto) (Q : QD) : Prop :=
  match o with
  | .ref a => match S a with
    | some (.lst ds) => match m, xs with
      | .append, [d] => ds.length < sizeLine ∧ Q .non (S.upd a (.lst (ds ++ [d])))
      | .pop, [] => ∃ d, ds[ds.length - 1]? = some d ∧ Q d (S.upd a (.lst ds.dropLast))
      | .pop, [.int i] => (-(2 ^ 63) ≤ i ∧ i < 2 ^ 63) ∧ ∃ j d, ixN ds.length i = some j ∧ ds[j]? = some d ∧ Q d (S.upd a (.lst (ds.eraseIdx j)))
      | .extend, [.ref b] => ∃ es, S b = some (.lst es) ∧ ds.length + es.length ≤ sizeLine ∧ Q .non (S.upd a (.lst (ds ++ es)))
      | .extend, [.tup es] => ds.length + es.length ≤ sizeLine ∧ Q .non (S.upd a (.lst (ds ++ es)))
      | .index, [y] => ∃ p ps j z, PD S y p ∧ PDs S ds ps ∧ p.depth ≤ 60 ∧ PyData.depthAll ps ≤ 60 ∧ ps[j]? = some z ∧ PyData.eqv z p = true ∧ (∀ m z', m < j → ps[m]? = some z' → PyData.eqv z' p = false) ∧ Q (.int (j : Nat)) S
      | _, _ => False
    | _ => False
  | .str l => match m, xs with
    | .count, [.str b] => Q (.int (Txt.count (st l) (st b))) S
    | .split, [.str b] => ((st b).length == 0) = false ∧ l.length + 2 ≤ sizeLine ∧ newW (.lst ((Txt.split (st l) (st b)).map fun y => .str y.cps.toList)) S Q
    | .join, [.ref p] => ∃ ls : List (List Nat), rd S p = some (ls.map .str) ∧ (ls.map List.length).sum + ls.length * l.length ≤ 16777216 ∧ Q (.str (Txt.join (st l) (ls.map st)).cps.toList) S
    | .startswith, [.str b] => Q (.bl (Txt.startswith (st l) (st b))) S
    | _, _ => False
  | _ => False
/-- the slots a target fills -/
def tgW (t : Tg) (d : D) (σ : Env) : Option Env :=
  match t with
  | .nm i => some (σ.set i (some d))
  | .tp is => match d with
    | .tup ds => if ds.length = is.length then some ((is.zip ds).foldl (fun s p => s.set p.1 (some p.2)) σ) else none
    | _ => none
/-- one item after the other -/
def goW (live : Sto → Prop) (turn : D → (Sto → Prop) → (Sto → Prop)) : List D → Sto → (Sto → Prop) → Prop
  | [], S, Q => live S ∧ Q S
  | d :: ds, S, Q => live S ∧ turn d (fun S' => goW live turn ds S' Q) S
/-- a list as it stood -/
def liveL (a : Addr) (ds : List D) : Sto → Prop := fun S => rd S a = some ds
def sqW (x : D) (S : Sto) (R : List D → (Sto → Prop) → Prop) : Prop :=
  match x with
  | .tup ds => R ds fun _ => True
  | .str l => l.length ≤ sizeLine ∧ R (l.map fun c => .str [c]) fun _ => True
  | .ref a => match S a with
    | some (.lst ds) => R ds (liveL a ds)
    | some (.fls ds) => R ds (liveL a ds)
    | _ => False
  | _ => False
def lsW (x : D) (S : Sto) (R : List D → (Sto → Prop) → Prop) : Prop :=
  match x with
  | .ref a => ∃ ds, rd S a = some ds ∧ R ds (liveL a ds)
  | _ => False
def rngD (lo : Int) (n : Nat) : List D := (List.range n).map fun (k : Nat) => D.int (lo + k)
def enumD (ds : List D) : List D := (List.range ds.length).zip ds |>.map fun (p : Nat × D) => D.tup [.int p.1, p.2]
def zipD (xs ys : List D) : List D := (xs.zip ys).map fun p => D.tup [p.1, p.2]
/-- list(zip(a, b)) of a list and a tuple -/
def lzW (x y : D) (S : Sto) (Q : QD) : Prop :=
  match x, y with
  | .ref a, .tup es => ∃ ds, rd S a = some ds ∧ (zipD ds es).length < sizeLine ∧ newW (.lst (zipD ds es)) S Q
  | _, _ => False
mutual
def wpE (G : Gam) : Ex → Env → Sto → QD → QX → Prop
  | .var i, σ, S, Q, _ => match σ.get i with | some d => Q d S | none => False
  | .lit d, _, S, Q, _ => Q d S
  | .bin op a b, σ, S, Q, E => wpE G a σ S (fun x S1 => wpE G b σ S1 (fun y S2 => binW op x y S2 Q) E) E
  | .neg a, σ, S, Q, E => wpE G a σ S (fun x S1 => match x with | .int i => Q (.int (-i)) S1 | _ => False) E
  | .cmp op a b, σ, S, Q, E => wpE G a σ S (fun x S1 => wpE G b σ S1 (fun y S2 => cmpW op x y S2 Q) E) E
  | .chn o1 o2 a b c, σ, S, Q, E => wpE G a σ S (fun x S1 => wpE G b σ S1 (fun y S2 => cmpW o1 x y S2 (fun r S3 => match r with | .bl true => wpE G c σ S3 (fun z S4 => cmpW o2 y z S4 Q) E | .bl false => Q (.bl false) S3 | _ => False)) E) E
  | .and a b, σ, S, Q, E => wpE G a σ S (fun x S1 => match tru S1 x with | some true => wpE G b σ S1 Q E | some false => Q x S1 | none => False) E
  | .or a b, σ, S, Q, E => wpE G a σ S (fun x S1 => match tru S1 x with | some true => Q x S1 | some false => wpE G b σ S1 Q E | none => False) E
  | .not a, σ, S, Q, E => wpE G a σ S (fun x S1 => match tru S1 x with | some r => Q (.bl (!r)) S1 | none => False) E
  | .ite c a b, σ, S, Q, E => wpE G c σ S (fun x S1 => match tru S1 x with | some true => wpE G a σ S1 Q E | some false => wpE G b σ S1 Q E | none => False) E
  | .tup es, σ, S, Q, E => wpEs G es σ S (fun ds S1 => ds.length ≤ sizeLine ∧ Q (.tup ds) S1) E
  | .lst es, σ, S, Q, E => wpEs G es σ S (fun ds S1 => ds.length ≤ sizeLine ∧ newW (.lst ds) S1 Q) E
  | .dct ps, σ, S, Q, E => ∀ p, S p = none → wpPs G ps σ (S.upd p (.dct [])) (fun kvs S1 => S1 p = some (.dct []) ∧ kvs.length ≤ 15 ∧ Q (.ref p) (S1.upd p (.dct (dmerge [] kvs)))) E
  | .ix a i, σ, S, Q, E => wpE G a σ S (fun x S1 => wpE G i σ S1 (fun y S2 => ixW x y S2 Q) E) E
  | .slc a lo hi, σ, S, Q, E => wpE G a σ S (fun x S1 => wpO G lo σ S1 (fun l S2 => wpO G hi σ S2 (fun h S3 => slW x l h S3 Q) E) E) E
  | .rev a, σ, S, Q, E => wpE G a σ S (fun x S1 => revW x S1 Q) E
  | .att a f, σ, S, Q, E => wpE G a σ S (fun x S1 => match x with | .ref p => (match S1 p with | some (.ins _ fs) => (match fget fs f with | some d => Q d S1 | none => False) | _ => False) | _ => False) E
  | .call f es, σ, S, Q, E => wpEs G es σ S (fun ds S1 => G.fn f ds S1 Q E) E
  | .callv i es, σ, S, Q, E => match σ.get i with | some (.fn f) => f < G.nfn ∧ wpEs G es σ S (fun ds S1 => G.fn f ds S1 Q E) E | _ => False
  | .bi b es, σ, S, Q, E => wpEs G es σ S (fun ds S1 => biW b ds S1 Q) E
  | .isi a t, σ, S, Q, E => wpE G a σ S (fun x S1 => match isiW x t S1 with | some r => Q (.bl r) S1 | none => False) E
  | .isi2 a t u, σ, S, Q, E => wpE G a σ S (fun x S1 => match isiW x t S1, isiW x u S1 with | some r, some q => Q (.bl (r || q)) S1 | _, _ => False) E
  | .mth m o es, σ, S, Q, E => wpE G o σ S (fun x S1 => match x with | .ref p => (match S1 p with | some (.ins c fs) => (match G.mt c m with | some f => wpEs G es σ S1 (fun ds S2 => G.fn f (x :: ds) S2 Q E) E | none => False) | _ => False) | _ => False) E
  | .bm m o es, σ, S, Q, E => wpE G o σ S (fun x S1 => bmTy m x S1 ∧ wpEs G es σ S1 (fun ds S2 => bmW m x ds S2 Q) E) E
  | .new c es, σ, S, Q, E => wpEs G es σ S (fun ds S1 => ∀ p, S1 p = none → G.ini c (.ref p :: ds) (S1.upd p (.ins c [])) (fun r S2 => r = .non ∧ Q (.ref p) S2) E) E
  | .newo c, _, S, Q, _ => ∀ p, S p = none → Q (.ref p) (S.upd p (.ins c []))
  | .lc e t it c, σ, S, Q, E => wpI G it σ S (fun ds live S1 => ∀ p, S1 p = none → goW live (fun d K S2 => match tgW t d σ with | some σ' => wpC G c σ' S2 (fun ok S3 => if ok then wpE G e σ' S3 (fun y S4 => ∃ acc, S4 p = some (.lst acc) ∧ acc.length < sizeLine ∧ K (S4.upd p (.lst (acc ++ [y])))) (fun _ _ => False) else K S3) | none => False) ds (S1.upd p (.lst [])) (fun S5 => Q (.ref p) S5)) E
  | .dc ke ve t it c, σ, S, Q, E => wpI G it σ S (fun ds live S1 => ∀ p, S1 p = none → goW live (fun d K S2 => match tgW t d σ with | some σ' => wpC G c σ' S2 (fun ok S3 => if ok then wpE G ke σ' S3 (fun y S4 => wpE G ve σ' S4 (fun z S5 => ∃ kvs ky, kyOf y = some ky ∧ S5 p = some (.dct kvs) ∧ kvs.length < sizeLine ∧ K (S5.upd p (.dct (dput kvs ky z)))) (fun _ _ => False)) (fun _ _ => False) else K S3) | none => False) ds (S1.upd p (.dct [])) (fun S5 => Q (.ref p) S5)) E
  | .kin neg a kvs, σ, S, Q, E => wpE G a σ S (fun x S1 => match x with | .str l => Q (.bl (neg ^^ (kvs.lookup l).isSome)) S1 | _ => False) E
  | .lzip a b, σ, S, Q, E => wpE G a σ S (fun x S1 => wpE G b σ S1 (fun y S2 => lzW x y S2 Q) E) E
  | .kix kvs a, σ, S, Q, E => wpE G a σ S (fun x S1 => match x with | .str l => (match kvs.lookup l with | some d => Q d S1 | none => False) | _ => False) E
def wpEs (G : Gam) : Exs → Env → Sto → (List D → Sto → Prop) → QX → Prop
  | .nil, _, S, Q, _ => Q [] S
  | .cons e es, σ, S, Q, E => wpE G e σ S (fun x S1 => wpEs G es σ S1 (fun xs S2 => Q (x :: xs) S2) E) E
/-- the pairs of a display, from the left: key, value, key, value .. -/
def wpPs (G : Gam) : Exs → Env → Sto → (List (Ky × D) → Sto → Prop) → QX → Prop
  | .nil, _, S, Q, _ => Q [] S
  | .cons k (.cons v r), σ, S, Q, E => wpE G k σ S (fun x S1 => wpE G v σ S1 (fun y S2 => wpPs G r σ S2 (fun kvs S3 => ∃ ky, kyOf x = some ky ∧ Q ((ky, y) :: kvs) S3) E) E) E
  | .cons _ .nil, _, _, _, _ => False
def wpO (G : Gam) : Exo → Env → Sto → (Option Int → Sto → Prop) → QX → Prop
  | .none, _, S, Q, _ => Q none S
  | .some e, σ, S, Q, E => wpE G e σ S (fun x S1 => match x with | .int i => Q (some i) S1 | _ => False) E
/-- a comprehension's test; what it raises is not let out -/
def wpC (G : Gam) : Exo → Env → Sto → (Bool → Sto → Prop) → Prop
  | .none, _, S, Q => Q true S
  | .some e, σ, S, Q => wpE G e σ S (fun x S1 => match tru S1 x with | some r => Q r S1 | none => False) (fun _ _ => False)
def wpI (G : Gam) : Itr → Env → Sto → (List D → (Sto → Prop) → Sto → Prop) → QX → Prop
  | .sq e, σ, S, R, E => wpE G e σ S (fun x S1 => sqW x S1 (fun ds l => R ds l S1)) E
  | .rng b, σ, S, R, E => wpE G b σ S (fun x S1 => match x with | .int j => -(2 ^ 62) ≤ j ∧ j < 2 ^ 62 ∧ R (rngD 0 j.toNat) (fun _ => True) S1 | _ => False) E
  | .rng2 a b, σ, S, R, E => wpE G a σ S (fun x S1 => wpE G b σ S1 (fun y S2 => match x, y with | .int i, .int j => -(2 ^ 62) ≤ i ∧ i < 2 ^ 62 ∧ -(2 ^ 62) ≤ j ∧ j < 2 ^ 62 ∧ R (rngD i (j - i).toNat) (fun _ => True) S2 | _, _ => False) E) E
  | .enum e, σ, S, R, E => wpE G e σ S (fun x S1 => lsW x S1 (fun ds l => R (enumD ds) l S1)) E
  | .zip a b, σ, S, R, E => wpE G a σ S (fun x S1 => wpE G b σ S1 (fun y S2 => lsW x S2 (fun ds l => lsW y S2 (fun es l2 => R (zipD ds es) (fun S' => l S' ∧ l2 S') S2))) E) E
end
def wpT (G : Gam) (e : Ex) (σ : Env) (S : Sto) (Q : Bool → Sto → Prop) (E : QX) : Prop := wpE G e σ S (fun x S1 => match tru S1 x with | some r => Q r S1 | none => False) E
/-- what is wanted behind a statement -/
structure En where
  nx : Env → Sto → Prop
  rt : QD
  bk : Env → Sto → Prop := fun _ _ => False
  ct : Env → Sto → Prop := fun _ _ => False
abbrev EX := Xn → Env → Sto → Prop
def seW (e : Se) (x : Xn) (σ : Env) (Q : D → Prop) : Prop :=
  match e with
  | .lit d => Q d
  | .exf i f => i < σ.length ∧ ∃ d, fget x.fs f = some d ∧ Q d
  | .exf2 i f g => i < σ.length ∧ ∃ d d2, fget x.fs f = some d ∧ fget x.fs g = some d2 ∧ Q (.tup [d, d2])
def suW (s : Su) (x : Xn) (K : En) (σ : Env) (S : Sto) : Prop :=
  match s with
  | .ret e => seW e x σ fun d => K.rt d S
  | .cnt => K.ct σ S
  | .pass => K.nx σ S
  | .set i d => K.nx (σ.set i (some d)) S
def tryW (G : Gam) : List (Nat × Su) → Xn → En → EX → Env → Sto → Prop
  | [], x, _, X, σ, S => X x σ S
  | (c, su) :: r, x, K, X, σ, S => if G.xsub x.c c = true then suW su x K σ S else tryW G r x K X σ S
/-- a while: by an invariant over a measure -/
def whlW (c : Env → Sto → (Bool → Sto → Prop) → Prop) (b : En → Env → Sto → Prop) (K : En) (σ : Env) (S : Sto) : Prop :=
  ∃ W : Nat → Env → Sto → Prop, (∃ m, W m σ S) ∧ ∀ m σ S, W m σ S →
    c σ S fun r S1 => if r = true then b { K with nx := fun σ' S' => ∃ m', m' < m ∧ W m' σ' S', ct := fun σ' S' => ∃ m', m' < m ∧ W m' σ' S', bk := K.nx } σ S1 else K.nx σ S1
def forW (live : Sto → Prop) (t : Tg) (b : En → Env → Sto → Prop) (K : En) : List D → Env → Sto → Prop
  | [], σ, S => live S ∧ K.nx σ S
  | d :: ds, σ, S => live S ∧ match tgW t d σ with
    | some σ' => b { K with nx := fun σ2 S2 => forW live t b K ds σ2 S2, ct := fun σ2 S2 => forW live t b K ds σ2 S2, bk := K.nx } σ' S
    | none => False
mutual
def wpS (G : Gam) : Stm → En → EX → Env → Sto → Prop
  | .set i e, K, X, σ, S => wpE G e σ S (fun d S1 => K.nx (σ.set i (some d)) S1) (fun x S1 => X x σ S1)
  | .unp is e, K, X, σ, S => wpE G e σ S (fun d S1 => match tgW (.tp is) d σ with | some σ' => K.nx σ' S1 | none => False) (fun x S1 => X x σ S1)
  | .unpl is e, K, X, σ, S => wpE G e σ S (fun d S1 => match d with | .ref a => (match rd S1 a with | some ds => (match tgW (.tp is) (.tup ds) σ with | some σ' => K.nx σ' S1 | none => False) | none => False) | _ => False) (fun x S1 => X x σ S1)
  | .unpa o f o2 f2 e, K, X, σ, S => wpE G e σ S (fun d S1 => match d with | .tup [a, b] => wpE G o σ S1 (fun x S2 => putatW x f a S2 (fun S3 => wpE G o2 σ S3 (fun y S4 => putatW y f2 b S4 (fun S5 => K.nx σ S5)) (fun x S1 => X x σ S1))) (fun x S1 => X x σ S1) | _ => False) (fun x S1 => X x σ S1)
  | .setix o i e, K, X, σ, S => wpE G e σ S (fun v S1 => wpE G o σ S1 (fun x S2 => wpE G i σ S2 (fun y S3 => setixW x y v S3 (fun S4 => K.nx σ S4)) (fun x S1 => X x σ S1)) (fun x S1 => X x σ S1)) (fun x S1 => X x σ S1)
  | .setat o f e, K, X, σ, S => wpE G e σ S (fun v S1 => wpE G o σ S1 (fun x S2 => match x with | .ref p => (match S2 p with | some (.ins c fs) => fs.length < 1000 ∧ K.nx σ (S2.upd p (.ins c (fput f v fs))) | _ => False) | _ => False) (fun x S1 => X x σ S1)) (fun x S1 => X x σ S1)
  | .aug i op e, K, X, σ, S => match σ.get i with | some x => wpE G e σ S (fun y S1 => augW op x y S1 (fun z S2 => K.nx (σ.set i (some z)) S2)) (fun x S1 => X x σ S1) | none => False
  | .augat o f op e, K, X, σ, S => wpE G o σ S (fun x S1 => match x with | .ref p => (match S1 p with | some (.ins c fs) => (match fget fs f with | some d => wpE G e σ S1 (fun y S2 => augW op d y S2 (fun z S3 => (match S3 p with | some (.ins c' fs') => c' = c ∧ fs'.length < 1000 ∧ K.nx σ (S3.upd p (.ins c' (fput f z fs'))) | _ => False))) (fun x S1 => X x σ S1) | none => False) | _ => False) | _ => False) (fun x S1 => X x σ S1)
  | .ife c a b, K, X, σ, S => wpT G c σ S (fun r S1 => if r = true then wpSs G a K X σ S1 else wpSs G b K X σ S1) (fun x S1 => X x σ S1)
  | .whl c b, K, X, σ, S => whlW (fun σ S Q => wpT G c σ S Q (fun x S1 => X x σ S1)) (fun K σ S => wpSs G b K X σ S) K σ S
  | .for_ t it b, K, X, σ, S => wpI G it σ S (fun ds live S1 => forW live t (fun K σ S => wpSs G b K X σ S) K ds σ S1) (fun x S1 => X x σ S1)
  | .ret e, K, X, σ, S => wpE G e σ S K.rt (fun x S1 => X x σ S1)
  | .brk, K, _, σ, S => K.bk σ S
  | .cnt, K, _, σ, S => K.ct σ S
  | .pass, K, _, σ, S => K.nx σ S
  | .ex e, K, X, σ, S => wpE G e σ S (fun _ S1 => K.nx σ S1) (fun x S1 => X x σ S1)
  | .raise c es, K, X, σ, S => wpEs G es σ S (fun ds S1 => ds.length = (G.xfl c).length ∧ X ⟨c, ((G.xfl c).zip ds).reverse⟩ σ S1) (fun x S1 => X x σ S1)
  | .try_ b hs, K, X, σ, S => wpSs G b K (fun x σ' S' => tryW G hs x K X σ' S') σ S
def wpSs (G : Gam) : Stms → En → EX → Env → Sto → Prop
  | .nil, K, _, σ, S => K.nx σ S
  | .cons s ss, K, X, σ, S => wpS G s { K with nx := fun σ' S' => wpSs G ss K X σ' S' } X σ S
end
end Mini
end L2
/-! Mini, part C: operations on values are the library's -/
namespace L2
namespace Mini
open PySem PySem.Spec PyProof.Rows
/-- slots -/
def ER (Z : Nm) (H : Hp) (σ : Env) (τ : St) : Prop := τ.length = σ.length ∧ ∀ i d, σ.get i = some d → ∃ v, τ[i]? = some (some v) ∧ RD Z H d v
theorem ER.keep {Z : Nm} {H H' : Hp} {σ : Env} {τ : St} (e : ER Z H σ τ) (k : TK H H') : ER Z H' σ τ := ⟨e.1, fun i d h => by
  obtain ⟨v, h1, h2⟩ := e.2 i d h
  exact ⟨v, h1, h2.keep k⟩⟩
theorem Env.get_lt {σ : Env} {i : Nat} {d : D} (h : σ.get i = some d) : i < σ.length := by
  unfold Env.get at h
  split at h
  · rename_i d' e
    exact (List.getElem?_eq_some_iff.mp e).1
  · cases h
theorem Env.get_set_same {σ : Env} {i : Nat} {d : D} (h : i < σ.length) : Env.get (σ.set i (some d)) i = some d := by
  unfold Env.get; rw [List.getElem?_set_self h]
theorem Env.get_set_ne {σ : Env} {i j : Nat} {d : Option D} (h : i ≠ j) : Env.get (σ.set i d) j = σ.get j := by
  unfold Env.get; rw [List.getElem?_set_ne h]
theorem ER.set {Z : Nm} {H : Hp} {σ : Env} {τ : St} (e : ER Z H σ τ) (i : Nat) {d : D} {v : V} (r : RD Z H d v) : ER Z H (σ.set i (some d)) (τ.set i (some v)) := by
  refine ⟨by rw [List.length_set, List.length_set]; exact e.1, fun j d' h => ?_⟩
  have hj := Env.get_lt h
  rw [List.length_set] at hj
  by_cases hij : i = j
  · subst hij
    rw [Env.get_set_same hj] at h
    cases h
    exact ⟨v, List.getElem?_set_self (by rw [e.1]; exact hj), r⟩
  · rw [Env.get_set_ne hij] at h
    obtain ⟨u, h1, h2⟩ := e.2 j d' h
    exact ⟨u, by rw [List.getElem?_set_ne hij]; exact h1, h2⟩
/-- an exception as it lies -/
def XR (Z : Nm) (H : Hp) (x : Xn) (cls : Value) (dd : Option Addr) : Prop :=
  (Z.nc ≤ x.c ∧ x.c < Z.nx) ∧ cls = .ref (Z.cla x.c) ∧ match dd with | none => x.fs = [] | some a => ∃ gs, H a = some (.xd gs) ∧ RF Z H x.fs gs
/-- the end of an expression -/
def Kq (Z : Nm) (H : Hp) (Qa : QD) (Q : VK) : Prop := ∀ d v S' H', TK H H' → SR Z S' H' → RD Z H' d v → Qa d S' → Q v H'
theorem Kq.keep {Z : Nm} {H H' : Hp} {Qa : QD} {Q : VK} (q : Kq Z H Qa Q) (k : TK H H') : Kq Z H' Qa Q := fun d v S2 H2 k2 => q d v S2 H2 (k.trans k2)
def Kx (Z : Nm) (W : WX) (τ : St) (H : Hp) (E : QX) : Prop := ∀ x cls dd S' H', TK H H' → SR Z S' H' → XR Z H' x cls dd → E x S' → W cls dd τ H'
theorem Kx.keep {Z : Nm} {W : WX} {τ : St} {H H' : Hp} {E : QX} (q : Kx Z W τ H E) (k : TK H H') : Kx Z W τ H' E := fun x c d S2 H2 k2 => q x c d S2 H2 (k.trans k2)
/-- the readings from a word about slots and store -/
abbrev WE0 := Env → Sto → QD → QX → Prop
def TEx (Z : Nm) (W : WX) (w : WE0) : TE := fun τ H Q => ∃ σ S Qa E, ER Z H σ τ ∧ SR Z S H ∧ w σ S Qa E ∧ Kq Z H Qa Q ∧ Kx Z W τ H E
def SE (X : Cx) (Z : Nm) (W : WX) (e : Expr) (w : WE0) : Prop := PE X e (TEx Z W w)
theorem PE.imp {X : Cx} {e : Expr} {t t' : TE} (h : PE X e t) (i : ∀ τ H Q, t' τ H Q → t τ H Q) : PE X e t' := ⟨fun pins s σ H Q I w => h.run pins s σ H Q I (i _ _ _ w)⟩
/-! ### any rule for an operation -/
def rAny (X : Cx) (f : Value → Value → Sem Value) : R2 := fun x y H Q => ∃ r, OpR X f r ∧ r x y H Q
theorem rAny.ok (X : Cx) (f : Value → Value → Sem Value) : OpR X f (rAny X f) := fun pins s σ H x y v u Q I rx ry ⟨r, h, q⟩ => h pins s σ H x y v u Q I rx ry q
def uAny (X : Cx) (f : Value → Sem Value) : V → Hp → VK → Prop := fun x H Q => ∃ r, UnR X f r ∧ r x H Q
theorem uAny.ok (X : Cx) (f : Value → Sem Value) : UnR X f (uAny X f) := fun pins s σ H x v Q I rx ⟨r, h, q⟩ => h pins s σ H x v Q I rx q
def cAny (X : Cx) (f : Value) : List V → Hp → VK → Prop := fun xs H Q => ∃ r, CallR X f r ∧ r xs H Q
theorem cAny.ok (X : Cx) (f : Value) : CallR X f (cAny X f) := fun pins s σ H xs us Q I rx ⟨r, h, q⟩ => h pins s σ H xs us Q I rx q
def ixAny (X : Cx) : R2 := fun x y H Q => ∃ r, IxR X r ∧ r x y H Q
theorem ixAny.ok (X : Cx) : IxR X (ixAny X) := fun a b pins s σ H x y v u Q I rx ry ⟨r, h, q⟩ hs => h a b pins s σ H x y v u Q I rx ry q hs
def slAny (X : Cx) : V → Option Int → Option Int → Hp → VK → Prop := fun x lo hi H Q => ∃ r, SlR X r ∧ r x lo hi H Q
theorem slAny.ok (X : Cx) : SlR X (slAny X) := fun pins s σ H x v vl vu lo hi sl Q I rx hs pl pu ⟨r, h, q⟩ => h pins s σ H x v vl vu lo hi sl Q I rx hs pl pu q
section
variable {X : Cx} {Z : Nm} {S : Sto} {H : Hp} {Qa : QD} {Q : VK}
theorem Kq.pure {d : D} {v : V} (q : Kq Z H Qa Q) (sr : SR Z S H) (r : RD Z H d v) (h : Qa d S) : Q v H := q d v S H (TK.refl H) sr r h
/-- a new list -/
theorem Kq.newL {ds : List D} {vs : List V} (q : Kq Z H Qa Q) (sr : SR Z S H) (r : RDs Z H ds vs) (h : newW (.lst ds) S Qa) : ∀ p, H p = none → Q (.ref p) (upd H p (.lst vs)) := fun p n =>
  q (.ref p) (.ref p) (S.upd p (.lst ds)) _ (TK.new n) (sr.put (TK.new n) ⟨vs, upd_same, r.keep (TK.new n)⟩) .ref (h p (sr.free n))
/-- a new tuple -/
theorem Kq.newT {ds : List D} {vs : List V} (q : Kq Z H Qa Q) (sr : SR Z S H) (r : RDs Z H ds vs) (h : Qa (.tup ds) S) : ∀ p, H p = none → Q (.ref p) (upd H p (.tup vs)) := fun p n =>
  q (.tup ds) (.ref p) S _ (TK.new n) (sr.new n) (.tup (.inl upd_same) (r.keep (TK.new n))) h
theorem lstAt {a : Addr} {ds : List D} (sr : SR Z S H) (e : S a = some (.lst ds)) : ∃ vs, H a = some (.lst vs) ∧ RDs Z H ds vs := sr a _ e
theorem rdAt {K : PySem.W.Frag} {a : Addr} {ds : List D} (sr : SR Z S H) (e : rd S a = some ds) : ∃ vs, SqL K H a vs ∧ RDs Z H ds vs := by
  unfold rd at e
  split at e
  · rename_i q; cases e
    obtain ⟨vs, h, r⟩ := sr a _ q
    exact ⟨vs, SqL.of h, r⟩
  · rename_i q; cases e
    obtain ⟨o, vs, h, r⟩ := sr a _ q
    exact ⟨vs, .inl (.inr ⟨o, h⟩), r⟩
  · cases e
/-! ### equality -/
mutual
theorem PD.dp (hK : Z.K = X.K) (sr : SR Z S H) : ∀ {d : D} {p : PyData} {v : V}, PD S d p → RD Z H d v → Dp X.K H v p
  | _, _, _, .non, r => by cases r; exact .non
  | _, _, _, .bl, r => by cases r; exact .bl _
  | _, _, _, .int, r => by cases r; exact .int _
  | _, _, _, .str _, r => by cases r; exact .str _
  | _, _, _, .tup h, r => by
    cases r with
    | tup t rs => exact .tup (by rw [← hK]; exact t.sq) (PDs.dp hK sr h rs)
  | _, _, _, .ref e h, r => by
    cases r
    obtain ⟨vs, q, rs⟩ := rdAt (K := X.K) sr e
    exact .lst q (PDs.dp hK sr h rs)
theorem PDs.dp (hK : Z.K = X.K) (sr : SR Z S H) : ∀ {ds : List D} {ps : List PyData} {vs : List V}, PDs S ds ps → RDs Z H ds vs → DpAll X.K H vs ps
  | _, _, _, .nil, r => by cases r; exact .nil
  | _, _, _, .cons h t, r => by
    cases r with
    | cons r rs => exact .cons (PD.dp hK sr h r) (PDs.dp hK sr t rs)
end
mutual
theorem PD.lay : ∀ {d : D} {p : PyData}, PD S d p → p.canLay0 = true
  | _, _, .non => rfl
  | _, _, .bl => rfl
  | _, _, .int => rfl
  | _, _, .str h => by
    show ((st _).cps.all (· < 0x110000)) = true
    rw [← h]
    simp [st]
  | _, _, .tup h => by rw [PyData.canLay0]; exact PDs.lay h
  | _, _, .ref _ h => by rw [PyData.canLay0]; exact PDs.lay h
theorem PDs.lay : ∀ {ds : List D} {ps : List PyData}, PDs S ds ps → PyData.canLayAll0 ps = true
  | _, _, .nil => rfl
  | _, _, .cons h t => by rw [PyData.canLayAll0, PD.lay h, PDs.lay t]; rfl
end
theorem op_eqR (hu : X.A.units + 190 < cLine) : OpR X (compareOp .Eq) (fun x y H Q => ∃ d e, Dp X.K H x d ∧ Dp X.K H y e ∧ d.canLay0 = true ∧ e.canLay0 = true ∧ eqRoom d e ∧ Q (.bl (PyData.eqv d e)) H) := by
  intro pins s σ H x y v u Q I rx ry h
  obtain ⟨d, e, hd, he, sd, se, hr, q⟩ := h
  obtain ⟨as, r1⟩ := Dp.reads I d x v hd rx
  obtain ⟨bs, r2⟩ := Dp.reads I e y u he ry
  exact SeqAt.compareEq_reads r1 r2 sd se (by unfold eqRoom at hr; omega) ⟨.bl _, H, I, rfl, q⟩
theorem op_neR (hu : X.A.units + 190 < cLine) : OpR X (compareOp .NotEq) (fun x y H Q => ∃ d e, Dp X.K H x d ∧ Dp X.K H y e ∧ d.canLay0 = true ∧ e.canLay0 = true ∧ eqRoom d e ∧ Q (.bl (!PyData.eqv d e)) H) := by
  intro pins s σ H x y v u Q I rx ry h
  obtain ⟨d, e, hd, he, sd, se, hr, q⟩ := h
  obtain ⟨as, r1⟩ := Dp.reads I d x v hd rx
  obtain ⟨bs, r2⟩ := Dp.reads I e y u he ry
  exact SeqAt.compareNe_reads r1 r2 sd se (by unfold eqRoom at hr; omega) ⟨.bl _, H, I, rfl, q⟩
theorem beq_st (a b : List Nat) : decide (V.str (st a) = V.str (st b)) = (a == b) := by
  by_cases e : a = b
  · subst e; simp
  · have h : ¬ V.str (st a) = V.str (st b) := fun q => e (st_inj (V.str.inj q))
    rw [decide_eq_false h]; exact (beq_eq_false_iff_ne.mpr e).symm
theorem beq_in (a b : Int) : decide (V.int a = V.int b) = (a == b) := dec_int
/-- x == y -/
theorem eq_ok (hK : Z.K = X.K) (hu : X.A.units + 190 < cLine) {x y : D} {v u : V} (sr : SR Z S H) (rx : RD Z H x v) (ry : RD Z H y u) (h : eqW x y false S Qa) (q : Kq Z H Qa Q) : rAny X (compareOp .Eq) v u H Q := by
  unfold eqW at h
  split at h
  · cases rx; cases ry
    exact ⟨_, op_eq, rfl, by rw [beq_in]; exact q.pure sr .bl (by simpa using h)⟩
  · cases rx; cases ry
    exact ⟨_, op_eq, rfl, by rw [beq_st]; exact q.pure sr .bl (by simpa using h)⟩
  · obtain ⟨r, e, h⟩ := h
    rw [Bool.false_xor] at h
    cases e with
    | int => cases rx; cases ry; exact ⟨_, op_eq, rfl, by rw [beq_in]; exact q.pure sr .bl h⟩
    | str => cases rx; cases ry; exact ⟨_, op_eq, rfl, by rw [beq_st]; exact q.pure sr .bl h⟩
    | dat p1 p2 rm => exact ⟨_, op_eqR hu, _, _, p1.dp hK sr rx, p2.dp hK sr ry, p1.lay, p2.lay, rm, q.pure sr .bl h⟩
theorem ne_ok (hK : Z.K = X.K) (hu : X.A.units + 190 < cLine) {x y : D} {v u : V} (sr : SR Z S H) (rx : RD Z H x v) (ry : RD Z H y u) (h : eqW x y true S Qa) (q : Kq Z H Qa Q) : rAny X (compareOp .NotEq) v u H Q := by
  unfold eqW at h
  split at h
  · cases rx; cases ry
    exact ⟨_, op_ne, rfl, by rw [beq_in]; exact q.pure sr .bl (by simpa using h)⟩
  · cases rx; cases ry
    exact ⟨_, op_ne, rfl, by rw [beq_st]; exact q.pure sr .bl (by simpa using h)⟩
  · obtain ⟨r, e, h⟩ := h
    rw [Bool.true_xor] at h
    cases e with
    | int => cases rx; cases ry; exact ⟨_, op_ne, rfl, by rw [beq_in]; exact q.pure sr .bl h⟩
    | str => cases rx; cases ry; exact ⟨_, op_ne, rfl, by rw [beq_st]; exact q.pure sr .bl h⟩
    | dat p1 p2 rm => exact ⟨_, op_neR hu, _, _, p1.dp hK sr rx, p2.dp hK sr ry, p1.lay, p2.lay, rm, q.pure sr .bl h⟩
end
end Mini
end L2
/-! Mini: zip of a list and a tuple; list(zip(..)) -/
namespace L2
namespace Mini
namespace ZM
open PySem
open PySem.Sem (wp)
open RZ
section
variable {prog : Program} {w : World} {A : Around} {E : Value → Shared → Prop} {s : Shared}
theorem next_item {z TI TO i1 i2 l1 l2 : Addr} {k1 k2 : Nat} {xs ys : Array Value} {x y a b : Value} {Q : Value → Shared → Prop} (D : ZipApart z TI TO i1 i2 l1 l2)
    (hz : IsZip s.heap z TI TO .none) (hTI : IsPair s.heap TI (.ref i1) (.ref i2)) (hTO : IsPair s.heap TO a b)
    (h1 : s.heap.IsListIter i1 l1 k1) (h2 : s.heap.IsTupleIter i2 l2 k2) (hl1 : s.heap.IsList l1 xs) (hl2 : s.heap.IsTuple l2 ys) (hx : xs[k1]? = some x) (hy : ys[k2]? = some y)
    (hQ : ∀ h', IsZip h' z TI TO (rawInt s.heap.objs.size) → IsPair h' TO x y → h'.IsListIter i1 l1 (k1 + 1) → h'.IsTupleIter i2 l2 (k2 + 1) → IsPair h' s.heap.objs.size x y → h'.objs.size = s.heap.objs.size + 1 →
      (∀ c o, c ≠ z → c ≠ TO → c ≠ i1 → c ≠ i2 → s.heap.get? c = some o → h'.get? c = some o) → Q (.ref s.heap.objs.size) { s with heap := h' }) :
    wpAny (model prog w) A (Builtin.«zip.__next__» ⟨[.ref z], []⟩) (fun fin s' => ∃ v, fin = .done (.ret v) ∧ Q v s') E s := by
  show wpAny _ _ (field (.ref z) 2 >>= _) _ _ _
  refine wpAny_bind (wpAny_field hz rfl (x := .bool false) rfl ?_)
  show wpAny _ _ (field (.ref z) 3 >>= _) _ _ _
  refine wpAny_bind (wpAny_field hz rfl (x := .ref TI) rfl ?_)
  refine wpAny_bind (wpAny_seqItems hTI rfl ?_)
  show wpAny _ _ (Builtin.SmallTypes.ownedTupleIsFree (.ref z) >>= _) _ _ _
  refine wpAny_bind ?_
  unfold Builtin.SmallTypes.ownedTupleIsFree
  refine wpAny_bind (wpAny_field hz rfl (x := .none) rfl (wpAny_pure ?_))
  simp only [if_true]
  refine wpAny_bind (wpAny_rule ?_)
  refine wpAny_bind (wpAny_field hz rfl (x := .ref TO) rfl ?_)
  refine wpAny_bind (wpAny_setField_rec hz (by simp) fun h₁ hz₁ hs₁ => ?_)
  replace hz₁ : IsZip h₁ z TI TO .ellipsis := hz₁
  refine wpAny_bind ?_
  simp only [List.zipIdx_cons, List.zipIdx_nil, List.forIn_cons, List.forIn_nil]
  refine wpAny_bind (wpAny_bind (wpAny_onRaise ?_))
  show wpAny _ _ (Builtin.SmallTypes.nextOf (.ref i1) >>= _) _ _ _
  refine wpAny_bind (wpAny_nextOf_list_item (h1.extBut hs₁.extBut D.i1z) (hl1.extBut hs₁.extBut D.l1z) hx fun h₂ h1₂ hs₂ => wpAny_pure ?_)
  have hTO₂ : IsPair h₂ TO a b := hs₂.extBut _ _ D.TOi1 (hs₁.extBut _ _ D.TOz hTO)
  refine wpAny_bind (wpAny_seqItems hTO₂ rfl ?_)
  refine wpAny_bind (wpAny_updateSeq_pair hTO₂ fun h₃ hTO₃ hs₃ => ?_)
  replace hTO₃ : IsPair h₃ TO x b := hTO₃
  refine wpAny_bind (wpAny_letGo (wpAny_pure ?_))
  refine wpAny_bind (wpAny_bind (wpAny_onRaise ?_))
  show wpAny _ _ (Builtin.SmallTypes.nextOf (.ref i2) >>= _) _ _ _
  refine wpAny_bind (nextOf_tuple_item (((h2.extBut hs₁.extBut D.i2z).extBut hs₂.extBut D.i12.symm).extBut hs₃.extBut D.TOi2.symm)
    (((hl2.extBut hs₁.extBut D.l2z).extBut hs₂.extBut D.l2i1).extBut hs₃.extBut D.l2TO) hy fun h₄ h2₄ hs₄ => wpAny_pure ?_)
  have hTO₄ : IsPair h₄ TO x b := hs₄.extBut _ _ D.TOi2 hTO₃
  refine wpAny_bind (wpAny_seqItems hTO₄ rfl ?_)
  refine wpAny_bind (wpAny_updateSeq_pair hTO₄ fun h₅ hTO₅ hs₅ => ?_)
  replace hTO₅ : IsPair h₅ TO x y := hTO₅
  refine wpAny_bind (wpAny_letGo (wpAny_pure (wpAny_pure ?_)))
  refine wpAny_bind (wpAny_seqItems hTO₅ rfl ?_)
  refine wpAny_bind (wpAny_newTuple ?_)
  have hsz : h₅.objs.size = s.heap.objs.size := by rw [hs₅.1, hs₄.1, hs₃.1, hs₂.1, hs₁.1]
  have hz₅ : IsZip h₅ z TI TO .ellipsis := hs₅.extBut _ _ D.TOz.symm (hs₄.extBut _ _ D.i2z.symm (hs₃.extBut _ _ D.TOz.symm (hs₂.extBut _ _ D.i1z.symm hz₁)))
  have hk₅ : ∀ c o, c ≠ z → c ≠ TO → c ≠ i1 → c ≠ i2 → s.heap.get? c = some o → h₅.get? c = some o := fun c o c1 c2 c3 c4 e =>
    hs₅.extBut _ _ c2 (hs₄.extBut _ _ c4 (hs₃.extBut _ _ c2 (hs₂.extBut _ _ c3 (hs₁.extBut _ _ c1 e))))
  have h1₅ : h₅.IsListIter i1 l1 (k1 + 1) := ((h1₂.extBut hs₃.extBut D.TOi1.symm).extBut hs₄.extBut D.i12).extBut hs₅.extBut D.TOi1.symm
  have h2₅ : h₅.IsTupleIter i2 l2 (k2 + 1) := h2₄.extBut hs₅.extBut D.TOi2.symm
  have hzlt : z < h₅.objs.size := Heap.lt_size hz₅
  show wpAny _ _ (Builtin.SmallTypes.ownedTupleHandOut (.ref z) (.ref h₅.objs.size) >>= _) _ _ _
  refine wpAny_bind ?_
  unfold Builtin.SmallTypes.ownedTupleHandOut
  have hz₆ : IsZip (h₅.push { cls := .type "tuple", data := .seq #[x, y] }) z TI TO .ellipsis := Heap.get?_push_of_some _ hz₅
  refine wpAny_bind (wpAny_setField_rec hz₆ (by simp) fun h₇ hz₇ hs₇ => ?_)
  replace hz₇ : IsZip h₇ z TI TO (rawInt h₅.objs.size) := hz₇
  refine wpAny_setField_rec hz₇ (by simp) fun h₈ hz₈ hs₈ => ?_
  replace hz₈ : IsZip h₈ z TI TO (rawInt h₅.objs.size) := hz₈
  have up : ∀ c o, c ≠ z → h₅.get? c = some o → h₈.get? c = some o := fun c o c1 e => hs₈.extBut _ _ c1 (hs₇.extBut _ _ c1 (Heap.get?_push_of_some _ e))
  have hT₈ : IsPair h₈ h₅.objs.size x y := hs₈.extBut _ _ (Nat.ne_of_gt hzlt) (hs₇.extBut _ _ (Nat.ne_of_gt hzlt) (Heap.get?_push_size _ rfl))
  have hz8 : h₈.objs.size = h₅.objs.size + 1 := by rw [hs₈.1, hs₇.1, Heap.size_push]
  rw [hsz] at hz₈ hT₈ hz8
  refine wpAny_pure ⟨_, rfl, ?_⟩
  show Q (.ref h₅.objs.size) _
  rw [hsz]
  exact hQ h₈ hz₈ (up _ _ D.TOz hTO₅) (h1₅.at fun o e => up _ o D.i1z e) (h2₅.at fun o e => up _ o D.i2z e) hT₈ hz8 fun c o c1 c2 c3 c4 e => up c o c1 (hk₅ c o c1 c2 c3 c4 e)
theorem next_end {z TI TO i1 i2 l1 l2 : Addr} {k1 k2 : Nat} {xs ys : Array Value} {a b : Value} {Q : Fin → Shared → Prop} (hh : A.handled = none) (D : ZipApart z TI TO i1 i2 l1 l2)
    (hz : IsZip s.heap z TI TO .none) (hTI : IsPair s.heap TI (.ref i1) (.ref i2)) (hTO : IsPair s.heap TO a b)
    (h1 : s.heap.IsListIter i1 l1 k1) (h2 : s.heap.IsTupleIter i2 l2 k2) (hl1 : s.heap.IsList l1 xs) (hl2 : s.heap.IsTuple l2 ys) (hend : xs[k1]? = none ∨ ys[k2]? = none)
    (hE : ∀ h' e, (∀ c o, c ≠ z → c ≠ TO → c ≠ i1 → c ≠ i2 → s.heap.get? c = some o → h'.get? c = some o) → (∃ o, h'.get? e = some o ∧ o.cls = .type "StopIteration") → E (.ref e) { s with heap := h' }) :
    wpAny (model prog w) A (Builtin.«zip.__next__» ⟨[.ref z], []⟩) Q E s := by
  show wpAny _ _ (field (.ref z) 2 >>= _) _ _ _
  refine wpAny_bind (wpAny_field hz rfl (x := .bool false) rfl ?_)
  show wpAny _ _ (field (.ref z) 3 >>= _) _ _ _
  refine wpAny_bind (wpAny_field hz rfl (x := .ref TI) rfl ?_)
  refine wpAny_bind (wpAny_seqItems hTI rfl ?_)
  show wpAny _ _ (Builtin.SmallTypes.ownedTupleIsFree (.ref z) >>= _) _ _ _
  refine wpAny_bind ?_
  unfold Builtin.SmallTypes.ownedTupleIsFree
  refine wpAny_bind (wpAny_field hz rfl (x := .none) rfl (wpAny_pure ?_))
  simp only [if_true]
  refine wpAny_bind (wpAny_rule ?_)
  refine wpAny_bind (wpAny_field hz rfl (x := .ref TO) rfl ?_)
  refine wpAny_bind (wpAny_setField_rec hz (by simp) fun h₁ hz₁ hs₁ => ?_)
  replace hz₁ : IsZip h₁ z TI TO .ellipsis := hz₁
  refine wpAny_bind ?_
  simp only [List.zipIdx_cons, List.zipIdx_nil, List.forIn_cons, List.forIn_nil]
  refine wpAny_bind (wpAny_bind (wpAny_onRaise ?_))
  show wpAny _ _ (Builtin.SmallTypes.nextOf (.ref i1) >>= _) _ _ _
  cases hx : xs[k1]? with
  | none =>
    refine wpAny_bind (wpAny_nextOf_list_end hh (h1.extBut hs₁.extBut D.i1z) (hl1.extBut hs₁.extBut D.l1z) hx fun h₂ e hs₂ he => ?_)
    obtain ⟨oe, hoe, hce⟩ := he
    have hz₂ : IsZip h₂ z TI TO .ellipsis := hs₂ _ _ D.i1z.symm hz₁
    have hez : e ≠ z := fun x => by subst x; rw [hz₂] at hoe; cases hoe; simp at hce
    refine wpAny_setField_rec hz₂ (by simp) fun h₃ _ hs₃ => hE h₃ e (fun c o c1 _ c3 _ x => hs₃.extBut _ _ c1 (hs₂ _ _ c3 (hs₁.extBut _ _ c1 x))) ⟨oe, hs₃.extBut _ _ hez hoe, hce⟩
  | some x =>
    have hy : ys[k2]? = none := by rcases hend with h | h; rw [hx] at h; cases h; exact h
    refine wpAny_bind (wpAny_nextOf_list_item (h1.extBut hs₁.extBut D.i1z) (hl1.extBut hs₁.extBut D.l1z) hx fun h₂ h1₂ hs₂ => wpAny_pure ?_)
    have hTO₂ : IsPair h₂ TO a b := hs₂.extBut _ _ D.TOi1 (hs₁.extBut _ _ D.TOz hTO)
    refine wpAny_bind (wpAny_seqItems hTO₂ rfl ?_)
    refine wpAny_bind (wpAny_updateSeq_pair hTO₂ fun h₃ hTO₃ hs₃ => ?_)
    refine wpAny_bind (wpAny_letGo (wpAny_pure ?_))
    refine wpAny_bind (wpAny_bind (wpAny_onRaise ?_))
    show wpAny _ _ (Builtin.SmallTypes.nextOf (.ref i2) >>= _) _ _ _
    refine wpAny_bind (nextOf_tuple_end hh (((h2.extBut hs₁.extBut D.i2z).extBut hs₂.extBut D.i12.symm).extBut hs₃.extBut D.TOi2.symm)
      (((hl2.extBut hs₁.extBut D.l2z).extBut hs₂.extBut D.l2i1).extBut hs₃.extBut D.l2TO) hy fun h₄ e hs₄ he => ?_)
    obtain ⟨oe, hoe, hce⟩ := he
    have hz₄ : IsZip h₄ z TI TO .ellipsis := hs₄ _ _ D.i2z.symm (hs₃.extBut _ _ D.TOz.symm (hs₂.extBut _ _ D.i1z.symm hz₁))
    have hez : e ≠ z := fun x => by subst x; rw [hz₄] at hoe; cases hoe; simp at hce
    refine wpAny_setField_rec hz₄ (by simp) fun h₅ _ hs₅ => hE h₅ e (fun c o c1 c2 c3 c4 x => hs₅.extBut _ _ c1 (hs₄ _ _ c4 (hs₃.extBut _ _ c2 (hs₂.extBut _ _ c3 (hs₁.extBut _ _ c1 x))))) ⟨oe, hs₅.extBut _ _ hez hoe, hce⟩
theorem next_item_held {z TI TO T i1 i2 l1 l2 : Addr} {f : Bool} {oT : Obj} {k1 k2 : Nat} {xs ys : Array Value} {x y : Value} {Q : Value → Shared → Prop} (D : ZipApart z TI TO i1 i2 l1 l2)
    (hz : IsZipHeld s.heap z TI TO T f) (hT : s.heap.get? T = some oT) (hTI : IsPair s.heap TI (.ref i1) (.ref i2))
    (h1 : s.heap.IsListIter i1 l1 k1) (h2 : s.heap.IsTupleIter i2 l2 k2) (hl1 : s.heap.IsList l1 xs) (hl2 : s.heap.IsTuple l2 ys) (hx : xs[k1]? = some x) (hy : ys[k2]? = some y)
    (hQ : ∀ h', IsZipHeld h' z TI TO T true → h'.IsListIter i1 l1 (k1 + 1) → h'.IsTupleIter i2 l2 (k2 + 1) → IsPair h' s.heap.objs.size x y → h'.objs.size = s.heap.objs.size + 1 →
      (∀ c o, c ≠ z → c ≠ i1 → c ≠ i2 → s.heap.get? c = some o → h'.get? c = some o) → Q (.ref s.heap.objs.size) { s with heap := h' }) :
    wpAny (model prog w) A (Builtin.«zip.__next__» ⟨[.ref z], []⟩) (fun fin s' => ∃ v, fin = .done (.ret v) ∧ Q v s') E s := by
  show wpAny _ _ (field (.ref z) 2 >>= _) _ _ _
  refine wpAny_bind (wpAny_field hz rfl (x := .bool false) rfl ?_)
  show wpAny _ _ (field (.ref z) 3 >>= _) _ _ _
  refine wpAny_bind (wpAny_field hz rfl (x := .ref TI) rfl ?_)
  refine wpAny_bind (wpAny_seqItems hTI rfl ?_)
  show wpAny _ _ (Builtin.SmallTypes.ownedTupleIsFree (.ref z) >>= _) _ _ _
  refine wpAny_bind (wpAny_tupleHeld_zip hz hT fun h₁ hz₁ hs₁ => ?_)
  simp only [Bool.false_eq_true, if_false]
  refine wpAny_bind ?_
  rw [← Array.forIn_toList]
  simp only [List.forIn_cons, List.forIn_nil]
  refine wpAny_bind (wpAny_bind (wpAny_holding ?_))
  show wpAny _ _ (Builtin.SmallTypes.nextOf (.ref i1) >>= _) _ _ _
  refine wpAny_bind (wpAny_nextOf_list_item (s := { s with heap := h₁ }) (h1.extBut hs₁.extBut D.i1z) (hl1.extBut hs₁.extBut D.l1z) hx fun h₂ h1₂ hs₂ => wpAny_pure ?_)
  refine wpAny_pure ?_
  refine wpAny_bind (wpAny_bind (wpAny_holding ?_))
  show wpAny _ _ (Builtin.SmallTypes.nextOf (.ref i2) >>= _) _ _ _
  refine wpAny_bind (nextOf_tuple_item (s := { s with heap := h₂ }) ((h2.extBut hs₁.extBut D.i2z).extBut hs₂.extBut D.i12.symm) ((hl2.extBut hs₁.extBut D.l2z).extBut hs₂.extBut D.l2i1) hy fun h₃ h2₃ hs₃ => wpAny_pure ?_)
  refine wpAny_pure (wpAny_pure ?_)
  show wpAny _ _ (newTuple [x, y] >>= _) _ _ _
  refine wpAny_bind (wpAny_newTuple ?_)
  have hsz : h₃.objs.size = s.heap.objs.size := by rw [hs₃.1, hs₂.1, hs₁.1]
  have hz₃ : IsZipHeld h₃ z TI TO T true := hs₃.extBut _ _ D.i2z.symm (hs₂.extBut _ _ D.i1z.symm hz₁)
  have hk : ∀ c o, c ≠ z → c ≠ i1 → c ≠ i2 → s.heap.get? c = some o → h₃.get? c = some o := fun c o c1 c2 c3 e => hs₃.extBut _ _ c3 (hs₂.extBut _ _ c2 (hs₁.extBut _ _ c1 e))
  have h1₃ : h₃.IsListIter i1 l1 (k1 + 1) := h1₂.extBut hs₃.extBut D.i12
  refine wpAny_pure ⟨_, rfl, ?_⟩
  show Q (.ref h₃.objs.size) _
  have hp : IsPair (h₃.push { cls := .type "tuple", data := .seq #[x, y] }) h₃.objs.size x y := Heap.get?_push_size _ rfl
  have hz4 : (h₃.push { cls := .type "tuple", data := .seq #[x, y] }).objs.size = h₃.objs.size + 1 := Heap.size_push ..
  rw [hsz] at hp hz4 ⊢
  exact hQ _ (Heap.get?_push_of_some _ hz₃) (h1₃.at fun o e => Heap.get?_push_of_some _ e) (h2₃.at fun o e => Heap.get?_push_of_some _ e) hp hz4 fun c o c1 c2 c3 e => Heap.get?_push_of_some _ (hk c o c1 c2 c3 e)
theorem next_end_held {z TI TO T i1 i2 l1 l2 : Addr} {f : Bool} {oT : Obj} {k1 k2 : Nat} {xs ys : Array Value} {Q : Fin → Shared → Prop} (hh : A.handled = none) (D : ZipApart z TI TO i1 i2 l1 l2)
    (hz : IsZipHeld s.heap z TI TO T f) (hT : s.heap.get? T = some oT) (hTI : IsPair s.heap TI (.ref i1) (.ref i2))
    (h1 : s.heap.IsListIter i1 l1 k1) (h2 : s.heap.IsTupleIter i2 l2 k2) (hl1 : s.heap.IsList l1 xs) (hl2 : s.heap.IsTuple l2 ys) (hend : xs[k1]? = none ∨ ys[k2]? = none)
    (hE : ∀ h' e, (∀ c o, c ≠ z → c ≠ i1 → c ≠ i2 → s.heap.get? c = some o → h'.get? c = some o) → (∃ o, h'.get? e = some o ∧ o.cls = .type "StopIteration") → E (.ref e) { s with heap := h' }) :
    wpAny (model prog w) A (Builtin.«zip.__next__» ⟨[.ref z], []⟩) Q E s := by
  show wpAny _ _ (field (.ref z) 2 >>= _) _ _ _
  refine wpAny_bind (wpAny_field hz rfl (x := .bool false) rfl ?_)
  show wpAny _ _ (field (.ref z) 3 >>= _) _ _ _
  refine wpAny_bind (wpAny_field hz rfl (x := .ref TI) rfl ?_)
  refine wpAny_bind (wpAny_seqItems hTI rfl ?_)
  show wpAny _ _ (Builtin.SmallTypes.ownedTupleIsFree (.ref z) >>= _) _ _ _
  refine wpAny_bind (wpAny_tupleHeld_zip hz hT fun h₁ hz₁ hs₁ => ?_)
  simp only [Bool.false_eq_true, if_false]
  refine wpAny_bind ?_
  rw [← Array.forIn_toList]
  simp only [List.forIn_cons, List.forIn_nil]
  refine wpAny_bind (wpAny_bind (wpAny_holding ?_))
  show wpAny _ _ (Builtin.SmallTypes.nextOf (.ref i1) >>= _) _ _ _
  cases hx : xs[k1]? with
  | none =>
    refine wpAny_bind (wpAny_nextOf_list_end (s := { s with heap := h₁ }) hh (h1.extBut hs₁.extBut D.i1z) (hl1.extBut hs₁.extBut D.l1z) hx fun h₂ e hs₂ he => ?_)
    exact hE h₂ e (fun c o c1 c2 _ x => hs₂ _ _ c2 (hs₁.extBut _ _ c1 x)) he
  | some x =>
    have hy : ys[k2]? = none := by rcases hend with h | h; rw [hx] at h; cases h; exact h
    refine wpAny_bind (wpAny_nextOf_list_item (s := { s with heap := h₁ }) (h1.extBut hs₁.extBut D.i1z) (hl1.extBut hs₁.extBut D.l1z) hx fun h₂ h1₂ hs₂ => wpAny_pure ?_)
    refine wpAny_pure ?_
    refine wpAny_bind (wpAny_bind (wpAny_holding ?_))
    show wpAny _ _ (Builtin.SmallTypes.nextOf (.ref i2) >>= _) _ _ _
    refine wpAny_bind (nextOf_tuple_end (s := { s with heap := h₂ }) hh ((h2.extBut hs₁.extBut D.i2z).extBut hs₂.extBut D.i12.symm) ((hl2.extBut hs₁.extBut D.l2z).extBut hs₂.extBut D.l2i1) hy fun h₃ e hs₃ he => ?_)
    exact hE h₃ e (fun c o c1 c2 c3 x => hs₃ _ _ c3 (hs₂.extBut _ _ c2 (hs₁.extBut _ _ c1 x))) he
end
abbrev zH1 (h : Heap) (l1 : Addr) : Heap := h.push { cls := .type "list_iterator", data := .fields #[.ref l1, .int 0 0] }
abbrev zH2 (h : Heap) (l1 l2 : Addr) : Heap := (zH1 h l1).push { cls := .type "tuple_iterator", data := .fields #[.ref l2, .int 0 0] }
abbrev zH3 (h : Heap) (l1 l2 : Addr) : Heap := (zH2 h l1 l2).push { cls := .type "tuple", data := .seq #[.ref h.objs.size, .ref (zH1 h l1).objs.size] }
abbrev zH4 (h : Heap) (l1 l2 : Addr) : Heap := (zH3 h l1 l2).push { cls := .type "tuple", data := .seq #[.none, .none] }
abbrev zH5 (h : Heap) (l1 l2 : Addr) : Heap := (zH4 h l1 l2).push { cls := .type "zip", data := .fields #[.none, .bool false, .bool false, .ref (zH2 h l1 l2).objs.size, .ref (zH3 h l1 l2).objs.size] }
theorem meets_new (l1 l2 : Addr) (xs ys : Array Value) :
    Meets (Builtin.«zip.__new__» ⟨[.type "zip", .ref l1, .ref l2], []⟩) (fun _ R s => s.heap.IsList l1 xs ∧ s.heap.IsTuple l2 ys ∧
      R (.ok (.ret (.ref (zH4 s.heap l1 l2).objs.size))) { s with heap := zH5 s.heap l1 l2 }) :=
  .of_wp fun prog w A R s h => by
    obtain ⟨hp, g, d, tk, os⟩ := s; obtain ⟨hl1, hl2, h⟩ := h
    have hsub := sub_zip
    have hL1 : Heap.IsList (Shared.heap ⟨hp, g, d, tk, os⟩) l1 xs := hl1
    have hL2 : Heap.IsTuple (Shared.heap ⟨hp.push { cls := .type "list_iterator", data := .fields #[.ref l1, .int 0 0] }, g, d, tk, os⟩) l2 ys := Heap.IsTuple.push hl2 _
    wp_walk using wpAny_pyIter_list hL1, wpAny_pyIter_tuple hL2
    exact ⟨_, rfl, h⟩
section
variable {prog : Program} {w : World} {A : Around} {E : Value → Shared → Prop} {s : Shared}
theorem call_zip {l1 l2 : Addr} {xs ys : Array Value} {Q : Value → Shared → Prop} (hl1 : s.heap.IsList l1 xs) (hl2 : s.heap.IsTuple l2 ys)
    (h : ∀ h', IsZip h' (s.heap.objs.size + 4) (s.heap.objs.size + 2) (s.heap.objs.size + 3) .none → IsPair h' (s.heap.objs.size + 2) (.ref s.heap.objs.size) (.ref (s.heap.objs.size + 1)) →
      IsPair h' (s.heap.objs.size + 3) .none .none → h'.IsListIter s.heap.objs.size l1 0 → h'.IsTupleIter (s.heap.objs.size + 1) l2 0 → h'.objs.size = s.heap.objs.size + 5 →
      (∀ c o, s.heap.get? c = some o → h'.get? c = some o) → Q (.ref (s.heap.objs.size + 4)) { s with heap := h' }) :
    wpAny (model prog w) A (call (.type "zip") [.ref l1, .ref l2]) Q E s := by
  refine callType_new F.called_zip (by decide) (F.typeCall_zip_2 _ _) (F.newCall_zip_2 _ _) (fun obj => F.args_object_init_3 obj _ _) F.entry_zip_new
    (meets_new l1 l2 xs ys) ⟨hl1, hl2, ?_⟩
  have z1 : (zH1 s.heap l1).objs.size = s.heap.objs.size + 1 := Heap.size_push ..
  have z2 : (zH2 s.heap l1 l2).objs.size = s.heap.objs.size + 2 := by rw [Heap.size_push, z1]
  have z3 : (zH3 s.heap l1 l2).objs.size = s.heap.objs.size + 3 := by rw [Heap.size_push, z2]
  have z4 : (zH4 s.heap l1 l2).objs.size = s.heap.objs.size + 4 := by rw [Heap.size_push, z3]
  have z5 : (zH5 s.heap l1 l2).objs.size = s.heap.objs.size + 5 := by rw [Heap.size_push, z4]
  have g5 : (zH5 s.heap l1 l2).get? (zH4 s.heap l1 l2).objs.size = some _ := Heap.get?_push_size _ rfl
  have g4 : (zH5 s.heap l1 l2).get? (zH3 s.heap l1 l2).objs.size = some _ := Heap.get?_push_of_some _ (Heap.get?_push_size _ rfl)
  have g3 : (zH5 s.heap l1 l2).get? (zH2 s.heap l1 l2).objs.size = some _ := Heap.get?_push_of_some _ (Heap.get?_push_of_some _ (Heap.get?_push_size _ rfl))
  have g2 : (zH5 s.heap l1 l2).get? (zH1 s.heap l1).objs.size = some _ := Heap.get?_push_of_some _ (Heap.get?_push_of_some _ (Heap.get?_push_of_some _ (Heap.get?_push_size _ rfl)))
  have g1 : (zH5 s.heap l1 l2).get? s.heap.objs.size = some _ := Heap.get?_push_of_some _ (Heap.get?_push_of_some _ (Heap.get?_push_of_some _ (Heap.get?_push_of_some _ (Heap.get?_push_size _ rfl))))
  show _ ∧ _
  rw [z2, z3, z4] at g5
  rw [z1, z2] at g3
  rw [z3] at g4
  rw [z1] at g2
  rw [z4]
  exact ⟨⟨_, g5, rfl⟩, h _ g5 g3 g4 ⟨_, g1, rfl, rfl⟩ ⟨_, g2, rfl, rfl⟩ z5 fun c o x =>
    Heap.get?_push_of_some _ (Heap.get?_push_of_some _ (Heap.get?_push_of_some _ (Heap.get?_push_of_some _ (Heap.get?_push_of_some _ x))))⟩
end
open PySem.Spec PyProof.Rows
section
variable {X : Cx} {pins : List (Addr × Obj)} {σ : St} {H : Hp} {s : Shared} {z TI TO i1 i2 a b : Addr} {A1 : Around}
/-- the zip behind i items; the first tuple that it gave out is still there -/
def ZSt (z TI TO i1 i2 a b : Addr) (i : Nat) (h : Heap) : Prop :=
  IsPair h TI (.ref i1) (.ref i2) ∧ h.IsListIter i1 a i ∧ h.IsTupleIter i2 b i ∧ (∃ x y, IsPair h TO x y) ∧
  (IsZip h z TI TO .none ∨ ∃ T f oT, IsZipHeld h z TI TO T f ∧ h.get? T = some oT ∧ T ≠ z ∧ T ≠ i1 ∧ T ≠ i2)
theorem ZSt.lt {i : Nat} {h : Heap} (st : ZSt z TI TO i1 i2 a b i h) : ∀ c ∈ [z, TI, TO, i1, i2], c < h.objs.size := fun c hc => by
  obtain ⟨hTI, ⟨_, e1, _⟩, ⟨_, e2, _⟩, ⟨x, y, hTO⟩, hz⟩ := st
  have e' : c = z ∨ c = TI ∨ c = TO ∨ c = i1 ∨ c = i2 := by simpa using hc
  rcases e' with q | q | q | q | q
  · rw [q]; rcases hz with hz | ⟨_, _, _, hz, _⟩ <;> exact Heap.lt_size hz
  · rw [q]; exact Heap.lt_size hTI
  · rw [q]; exact Heap.lt_size hTO
  · rw [q]; exact Heap.lt_size e1
  · rw [q]; exact Heap.lt_size e2
theorem py_item {i : Nat} {xs ys : List V} {x y : V} {E : Value → Shared → Prop} (D : ZipApart z TI TO i1 i2 a b) (I : Inv X pins σ H s) (hf : ∀ c ∈ [z, TI, TO, i1, i2], FpOk X pins H c) (st : ZSt z TI TO i1 i2 a b i s.heap) (hqx : SqL X.K H a xs) (hqy : SqT X.K H b ys) (hx : xs[i]? = some x) (hy : ys[i]? = some y) :
    wpAny (model X.prog X.w) A1 (pyNext (.ref z)) (fun r s' => ∃ T, r = some (.ref T) ∧ H T = none ∧ Inv X pins σ (upd H T (.tup [x, y])) s' ∧ ZSt z TI TO i1 i2 a b (i + 1) s'.heap ∧ (∀ c ∈ [z, TI, TO, i1, i2], FpOk X pins (upd H T (.tup [x, y])) c)) E s := by
  have hlt := st.lt
  obtain ⟨hTI, h1, h2, ⟨x0, y0, hTO⟩, hz⟩ := st
  obtain ⟨its, rv, p, _⟩ := I.list hqx
  obtain ⟨its2, rv2, p2, _⟩ := I.tuple hqy
  obtain ⟨u, hu, ru⟩ := rv.get hx
  obtain ⟨u2, hu2, ru2⟩ := rv2.get hy
  have hfT : ∀ c ∈ [z, TI, TO, i1, i2], FpOk X pins (upd H s.heap.objs.size (.tup [x, y])) c := fun c hc => ⟨by rw [upd_ne (Nat.ne_of_lt (hlt c hc))]; exact (hf c hc).1, (hf c hc).2⟩
  have fin : ∀ h' : Heap, IsPair h' s.heap.objs.size u u2 → (∀ c o, c ≠ z → c ≠ TO → c ≠ i1 → c ≠ i2 → s.heap.get? c = some o → h'.get? c = some o) → Inv X pins σ (upd H s.heap.objs.size (.tup [x, y])) { s with heap := h' } := fun h' hT hk => by
    have new : ObjOk X.prog X.w (upd H s.heap.objs.size (.tup [x, y])) h' s.heap.objs.size (.tup [x, y]) :=
      ⟨by show 2 ≤ sizeLine; decide, [u, u2], .cons ru (.cons ru2 .nil), ⟨_, hT, rfl, _, rfl⟩⟩
    exact I.turnedNew (t' := s.toks) (ch := [z, TI, TO, i1, i2]) (fun c o hb q => hk c o (fun q' => hb (by simp [q'])) (fun q' => hb (by simp [q'])) (fun q' => hb (by simp [q'])) (fun q' => hb (by simp [q'])) q) hf (Nat.le_refl _) new
  have hsz : ∀ c ∈ [z, TI, TO, i1, i2], s.heap.objs.size ≠ c := fun c hc => Nat.ne_of_gt (hlt c hc)
  have hTy : s.TypeIs (.ref z) "zip" := by rcases hz with hz | ⟨_, _, _, hz, _⟩ <;> exact ⟨_, hz, rfl⟩
  unfold pyNext
  rcases hz with hz | ⟨T, f, oT, hz, hT, d1, d2, d3⟩
  · refine wpAny_bind (wpAny_attempt (wpAny_callSpecial?_slot (name := Str.ofString "__next__") hTy F.slot_zip_next
      (wpAny_call_entry F.slot_zip_next hTy F.entry_zip_next
        (next_item D hz hTI hTO h1 h2 p.isList p2 (x := u) (y := u2) (by simpa using hu) (by simpa using hu2) fun h' b1 b2 b3 b4 b5 b6 b7 => wpAny_pure ?_) (F.args_zip_next_1 _))))
    exact ⟨s.heap.objs.size, rfl, I.fresh, fin h' b5 b7, ⟨b7 _ _ D.TIz D.TITO D.TIi1 D.TIi2 hTI, b3, b4, ⟨_, _, b2⟩, .inr ⟨s.heap.objs.size, false, _, b1, b5, hsz z (by simp), hsz i1 (by simp), hsz i2 (by simp)⟩⟩, hfT⟩
  · refine wpAny_bind (wpAny_attempt (wpAny_callSpecial?_slot (name := Str.ofString "__next__") hTy F.slot_zip_next
      (wpAny_call_entry F.slot_zip_next hTy F.entry_zip_next
        (next_item_held D hz hT hTI h1 h2 p.isList p2 (x := u) (y := u2) (by simpa using hu) (by simpa using hu2) fun h' b1 b3 b4 b5 b6 b7 => wpAny_pure ?_) (F.args_zip_next_1 _))))
    exact ⟨s.heap.objs.size, rfl, I.fresh, fin h' b5 fun c o c1 _ c3 c4 e => b7 c o c1 c3 c4 e, ⟨b7 _ _ D.TIz D.TIi1 D.TIi2 hTI, b3, b4, ⟨_, _, b7 _ _ D.TOz D.TOi1 D.TOi2 hTO⟩, .inr ⟨T, true, _, b1, b7 _ _ d1 d2 d3 hT, d1, d2, d3⟩⟩, hfT⟩
theorem py_done {i : Nat} {xs ys : List V} {E : Value → Shared → Prop} (hh : A1.handled = none) (D : ZipApart z TI TO i1 i2 a b) (I : Inv X pins σ H s) (hf : ∀ c ∈ [z, TI, TO, i1, i2], FpOk X pins H c) (st : ZSt z TI TO i1 i2 a b i s.heap) (hqx : SqL X.K H a xs) (hqy : SqT X.K H b ys) (hend : xs.length ≤ i ∨ ys.length ≤ i) :
    wpAny (model X.prog X.w) A1 (pyNext (.ref z)) (fun r s' => r = none ∧ Inv X pins σ H s') E s := by
  obtain ⟨hTI, h1, h2, ⟨x0, y0, hTO⟩, hz⟩ := st
  obtain ⟨its, rv, p, _⟩ := I.list hqx
  obtain ⟨its2, rv2, p2, _⟩ := I.tuple hqy
  have l1 := rv.length
  have l2 := rv2.length
  have he : its.toArray[i]? = none ∨ its2.toArray[i]? = none := by
    rcases hend with q | q
    · exact .inl (by simp; omega)
    · exact .inr (by simp; omega)
  have hTy : s.TypeIs (.ref z) "zip" := by rcases hz with hz | ⟨_, _, _, hz, _⟩ <;> exact ⟨_, hz, rfl⟩
  unfold pyNext
  rcases hz with hz | ⟨T, f, oT, hz, hT, d1, d2, d3⟩
  · refine wpAny_bind (wpAny_attempt (wpAny_callSpecial?_slot (name := Str.ofString "__next__") hTy F.slot_zip_next
      (wpAny_call_entry F.slot_zip_next hTy F.entry_zip_next (next_end hh D hz hTI hTO h1 h2 p.isList p2 he fun h' e hk hx => ?_) (F.args_zip_next_1 _))))
    obtain ⟨o, ho, hc⟩ := hx
    refine wpAny_bind (wpAny_isInstance (T := "StopIteration") (b := true) ⟨o, ho, hc⟩ isSubtype_stop ?_)
    exact wpAny_pure ⟨rfl, I.turnedL (t' := s.toks) (ch := [z, TI, TO, i1, i2]) (fun c o hb q => hk c o (fun q' => hb (by simp [q'])) (fun q' => hb (by simp [q'])) (fun q' => hb (by simp [q'])) (fun q' => hb (by simp [q'])) q) hf⟩
  · refine wpAny_bind (wpAny_attempt (wpAny_callSpecial?_slot (name := Str.ofString "__next__") hTy F.slot_zip_next
      (wpAny_call_entry F.slot_zip_next hTy F.entry_zip_next (next_end_held hh D hz hT hTI h1 h2 p.isList p2 he fun h' e hk hx => ?_) (F.args_zip_next_1 _))))
    obtain ⟨o, ho, hc⟩ := hx
    refine wpAny_bind (wpAny_isInstance (T := "StopIteration") (b := true) ⟨o, ho, hc⟩ isSubtype_stop ?_)
    exact wpAny_pure ⟨rfl, I.turnedL (t' := s.toks) (ch := [z, TI, TO, i1, i2]) (fun c o hb q => hk c o (fun q' => hb (by simp [q'])) (fun q' => hb (by simp [q'])) (fun q' => hb (by simp [q'])) q) hf⟩
end
theorem zip_no_len : typeLookup (.type "zip") "__len__" = pure none := by rw [typeLookup_type, builtinLookup_eq_fast]; kernel_rfl
theorem zip_no_hint : typeLookup (.type "zip") "__length_hint__" = pure none := by rw [typeLookup_type, builtinLookup_eq_fast]; kernel_rfl
section
variable {X : Cx} {Z : Nm} {pins : List (Addr × Obj)} {σ : St} {z TI TO i1 i2 a b q : Addr} {A1 : Around} {ds es : List D}
theorem zip_at {i : Nat} {d e : D} (h1 : ds[i]? = some d) (h2 : es[i]? = some e) : (zipD ds es).take (i + 1) = (zipD ds es).take i ++ [.tup [d, e]] := by
  have h : (zipD ds es)[i]? = some (.tup [d, e]) := by
    unfold zipD
    rw [List.getElem?_map, List.getElem?_zip_eq_some (z := (d, e)) |>.mpr ⟨h1, h2⟩]
    rfl
  rw [List.take_add_one, h]
  rfl
theorem sto_twice {S : Sto} {p : Addr} {c d : Cell} : (S.upd p c).upd p d = S.upd p d := by
  funext x
  by_cases e : x = p
  · rw [e, Sto.upd_same, Sto.upd_same]
  · rw [Sto.upd_ne e, Sto.upd_ne e, Sto.upd_ne e]
theorem ZSt.upd {i : Nat} {h : Heap} {f : Array Value → Array Value} {its : Array Value} {n : Nat} (st : ZSt z TI TO i1 i2 a b i h) (e : h.get? q = some { cls := .type "list", data := .seq its n }) (hq : q ∉ [z, TI, TO, i1, i2]) : ZSt z TI TO i1 i2 a b i (h.update q (Obj.mapSeq f)) := by
  have k : ∀ c, c ∈ [z, TI, TO, i1, i2] → ∀ o, h.get? c = some o → (h.update q (Obj.mapSeq f)).get? c = some o := fun c hc o ho =>
    (Heap.get?_update_other _ _ (fun x => hq (by rw [x]; exact hc))).trans ho
  obtain ⟨hTI, h1, h2, ⟨x0, y0, hTO⟩, hz⟩ := st
  refine ⟨k TI (by simp) _ hTI, h1.at fun o q => k i1 (by simp) o q, h2.at fun o q => k i2 (by simp) o q, ⟨x0, y0, k TO (by simp) _ hTO⟩, ?_⟩
  rcases hz with hz | ⟨T, f', oT, hz, hT, d⟩
  · exact .inl (k z (by simp) _ hz)
  · by_cases ht : T = q
    · subst ht
      exact .inr ⟨T, f', _, k z (by simp) _ hz, Heap.get?_update_self (Obj.mapSeq f) e rfl, d⟩
    · exact .inr ⟨T, f', oT, k z (by simp) _ hz, (Heap.get?_update_other _ _ (Ne.symm ht)).trans hT, d⟩
/-- what the loop keeps -/
structure ZL (X : Cx) (Z : Nm) (pins : List (Addr × Obj)) (σ : St) (z TI TO i1 i2 a b q : Addr) (ds es : List D) (H0 : Hp) (S0 : Sto) (i : Nat) (H : Hp) (s : Shared) : Prop where
  inv : Inv X pins σ H s
  sr : SR Z (S0.upd q (.lst ((zipD ds es).take i))) H
  tk : TK H0 H
  ra : rd S0 a = some ds
  tb : ∃ us, TupAt X.K H b us ∧ RDs Z H es us
  st : ZSt z TI TO i1 i2 a b i s.heap
  fp : ∀ c ∈ [z, TI, TO, i1, i2], FpOk X pins H c
theorem ext_loop {H0 : Hp} {S0 : Sto} {Rs : Result → Shared → Prop} (hK : Z.K = X.K) (hh : A1.in1.handled = none) (D : ZipApart z TI TO i1 i2 a b) (hq0 : S0 q = none) (hqf : q ∉ [z, TI, TO, i1, i2]) (hz : (zipD ds es).length < sizeLine)
    (hR : ∀ H s, Inv X pins σ H s → SR Z (S0.upd q (.lst (zipD ds es))) H → TK H0 H → Rs (.ok (.ret .none)) s) :
    ∀ (k i : Nat) (H : Hp) (s : Shared), min ds.length es.length - i = k → i ≤ min ds.length es.length → ZL X Z pins σ z TI TO i1 i2 a b q ds es H0 S0 i H s →
      codeAny (model X.prog X.w) A1 (.builtin "list.extend.loop" ⟨[.ref q, .ref z, .none], []⟩) Rs s := by
  intro k
  induction k with
  | zero =>
    intro i H s hk hi L
    have ne : a ≠ q := fun e => by have := L.ra; unfold rd at this; rw [e, hq0] at this; cases this
    have ra' : rd (S0.upd q (.lst ((zipD ds es).take i))) a = some ds := by unfold rd; rw [Sto.upd_ne ne]; exact L.ra
    obtain ⟨vs, sq, rs⟩ := rdAt (K := X.K) L.sr ra'
    obtain ⟨us, squ0, ru⟩ := L.tb
    have squ := squ0.sq
    refine codeAny_builtin F.entry_extend_loop ?_
    rw [Around.under_plainId F.plain_extend_loop _]
    show wpAny _ A1.in1 (pyNext (.ref z) >>= _) _ _ s
    refine wpAny_bind (wpAny_mono (py_done hh D L.inv L.fp L.st sq squ (by rw [← rs.length, ← ru.length]; omega)) (fun r s' hr => ?_) fun e s' he => he)
    obtain ⟨rfl, I'⟩ := hr
    refine wpAny_pure (hR H s' I' ?_ L.tk)
    have e : (zipD ds es).take i = zipD ds es := List.take_of_length_le (by unfold zipD; rw [List.length_map, List.length_zip]; omega)
    have := L.sr
    rw [e] at this
    exact this
  | succ k ih =>
    intro i H s hk hi L
    have ne : a ≠ q := fun e => by have := L.ra; unfold rd at this; rw [e, hq0] at this; cases this
    have ra' : rd (S0.upd q (.lst ((zipD ds es).take i))) a = some ds := by unfold rd; rw [Sto.upd_ne ne]; exact L.ra
    obtain ⟨vs, sq, rs⟩ := rdAt (K := X.K) L.sr ra'
    obtain ⟨us, squ0, ru⟩ := L.tb
    have squ := squ0.sq
    have hi1 : i < ds.length := by omega
    have hi2 : i < es.length := by omega
    obtain ⟨x, hx, rx⟩ := rs.get (List.getElem?_eq_getElem hi1)
    obtain ⟨y, hy, ry⟩ := ru.get (List.getElem?_eq_getElem hi2)
    refine codeAny_builtin F.entry_extend_loop ?_
    rw [Around.under_plainId F.plain_extend_loop _]
    show wpAny _ A1.in1 (pyNext (.ref z) >>= _) _ _ s
    refine wpAny_bind (wpAny_mono (py_item D L.inv L.fp L.st sq squ hx hy) (fun r s' hr => ?_) fun e s' he => he)
    obtain ⟨T, rfl, hT, I', st', fp'⟩ := hr
    have tk1 : TK H (upd H T (.tup [x, y])) := TK.new hT
    have sr1 := L.sr.new (o := .tup [x, y]) hT
    obtain ⟨ws, hqH, rw_⟩ := sr1 q _ Sto.upd_same
    show wpAny _ A1.in1 (updateSeq q (·.push (.ref T)) >>= _) _ _ _
    obtain ⟨zz, its, kk, r2, hl, e⟩ := I'.lstM hqH
    have hlen : ws.length = i := by rw [← rw_.length, List.length_take]; unfold zipD; rw [List.length_map, List.length_zip]; omega
    have hiz : i < (zipD ds es).length := by unfold zipD; rw [List.length_map, List.length_zip]; omega
    refine wpAny_bind (wpAny_updateSeq e rfl (wpAny_pure ⟨plainId_quiet PySem.F.plain_extend_loop _, ?_⟩) (by rw [List.size_toArray]; omega) (by show (its.toArray.push (.ref T)).size ≤ sizeLine + 1; rw [Array.size_push, List.size_toArray]; omega))
    have I2 := I'.lset (f := (·.push (Value.ref T))) (its' := its ++ [.ref T]) (ys := ws ++ [.ref T]) (t' := s'.toks) hqH e (by simp) (r2.append (.cons (show RelV (V.ref T) (Value.ref T) from rfl) .nil)) (by rw [List.length_append, List.length_singleton]; omega)
    have tk2 : TK (upd H T (.tup [x, y])) (upd (upd H T (.tup [x, y])) q (.lst (ws ++ [.ref T]))) := TK.mut hqH True.intro
    have rt : RD Z (upd H T (.tup [x, y])) (.tup [ds[i], es[i]]) (.ref T) := .tup (.inl upd_same) (.cons (rx.keep tk1) (.cons (ry.keep tk1) .nil))
    refine ih (i + 1) _ _ (by omega) (by omega) ⟨I2, ?_, (L.tk.trans tk1).trans tk2, L.ra, ?_, ?_, fun c hc => ⟨?_, (fp' c hc).2⟩⟩
    · rw [zip_at (List.getElem?_eq_getElem hi1) (List.getElem?_eq_getElem hi2)]
      have := sr1.put (c := .lst ((zipD ds es).take i ++ [.tup [ds[i], es[i]]])) tk2 ⟨_, upd_same, (rw_.append (.cons rt .nil)).keep tk2⟩
      rw [sto_twice] at this
      exact this
    · exact ⟨us, (squ0.keep tk1).keep tk2, (ru.keep tk1).keep tk2⟩
    · exact st'.upd e hqf
    · rw [upd_ne (fun e => hqf (by rw [← e]; exact hc))]; exact (fp' c hc).1
end
section
variable {X : Cx} {Z : Nm} {pins : List (Addr × Obj)} {σ : St} {ds es : List D}
theorem hint_zip {prog : Program} {w : World} {A : Around} {E : Value → Shared → Prop} {s : Shared} {z : Addr} {Q : Bool → Shared → Prop} (hT : s.TypeIs (.ref z) "zip") (h : Q true s) : wpAny (model prog w) A (Builtin.List.listLengthHint (.ref z)) Q E s := by
  unfold Builtin.List.listLengthHint
  refine wpAny_bind (wpAny_specialOf hT zip_no_len ?_)
  show wpAny _ A (specialOf (Value.ref z) (Str.ofString "__length_hint__") >>= _) _ _ _
  refine wpAny_bind (wpAny_specialOf hT zip_no_hint ?_)
  exact wpAny_pure h
theorem ZSt.ty {z TI TO i1 i2 a b : Addr} {i : Nat} {s : Shared} (st : ZSt z TI TO i1 i2 a b i s.heap) : s.TypeIs (.ref z) "zip" := by
  obtain ⟨_, _, _, _, hz⟩ := st
  rcases hz with hz | ⟨_, _, _, hz, _⟩ <;> exact ⟨_, hz, rfl⟩
theorem ZSt.self {prog : Program} {w : World} {A : Around} {E : Value → Shared → Prop} {z TI TO i1 i2 a b : Addr} {s : Shared} {Q : Value → Shared → Prop} (hz : IsZip s.heap z TI TO .none) (h : Q (.ref z) s) : wpAny (model prog w) A (pyIter (.ref z)) Q E s := wpAny_pyIter_zip hz h
/-- list.extend of a fresh zip -/
theorem zip_extend {A1 : Around} {Rs : Result → Shared → Prop} {H0 : Hp} {S0 : Sto} {z TI TO i1 i2 a b q : Addr} {H : Hp} {s : Shared} (hK : Z.K = X.K) (hh : A1.in1.handled = none) (D : ZipApart z TI TO i1 i2 a b) (hq0 : S0 q = none) (hqf : q ∉ [z, TI, TO, i1, i2]) (hz : (zipD ds es).length < sizeLine)
    (hzip : IsZip s.heap z TI TO .none) (L : ZL X Z pins σ z TI TO i1 i2 a b q ds es H0 S0 0 H s)
    (hR : ∀ H s, Inv X pins σ H s → SR Z (S0.upd q (.lst (zipD ds es))) H → TK H0 H → Rs (.ok (.ret .none)) s) :
    wpAny (model X.prog X.w) A1.in1 (Builtin.List.listExtendWith (.ref q) (.ref z) .none)
      (fun fin s' => match fin with | .done f => Rs (.ok f) s' | .again c' => c'.quiet = true ∧ codeAny (model X.prog X.w) A1 c' Rs s') (fun e s' => Rs (.error e) s') s := by
  have hne : q ≠ z := fun e => hqf (by rw [e]; simp)
  unfold Builtin.List.listExtendWith
  refine wpAny_bind (wpAny_typeOf L.st.ty ?_)
  have h1 : Builtin.List.listSameRef (.ref q) (.ref z) = false := by simp [Builtin.List.listSameRef, hne]
  have h2 : (Value.type "zip" == Value.type "list") = false := by decide
  have h3 : (Value.type "zip" == Value.type "tuple") = false := by decide
  simp only [h1, h2, h3, Bool.or_false, Bool.false_eq_true, if_false]
  refine wpAny_bind (wpAny_pyIter_zip hzip ?_)
  refine wpAny_bind (wpAny_holding (hint_zip L.st.ty ?_))
  have hS := L.sr q _ Sto.upd_same
  rw [List.take_zero] at hS
  obtain ⟨ws, hqH, rw_⟩ := hS
  cases rw_
  refine wpAny_ite_split (fun _ => ?_) (fun _ => wpAny_pure ⟨plainId_quiet PySem.F.plain_extend_loop _, ext_loop hK hh D hq0 hqf hz hR _ 0 H s rfl (Nat.zero_le _) L⟩)
  refine wpAny_bind (wpAny_rule ?_)
  refine wpAny_bind ?_
  show wpAny _ _ (updateSeq q (·.push .none) >>= fun _ => updateSeq q (·.pop)) _ _ _
  obtain ⟨z3, its, k3, r3, hl3, e3⟩ := L.inv.lstM hqH
  cases r3
  refine wpAny_bind (wpAny_updateSeq e3 rfl ?_)
  have I2 := L.inv.lset (f := (·.push Value.none)) (its' := [Value.none]) (ys := [.non]) (t' := s.toks) hqH e3 (by simp) (.cons rfl .nil) (by rw [List.length_singleton, sizeLine_eq]; decide)
  obtain ⟨z4, its4, k4, r4, hl4, e4⟩ := I2.lstM upd_same
  obtain ⟨u4, rfl, ru4⟩ := r4.one
  refine wpAny_updateSeq e4 rfl ?_ (by show 1 ≤ sizeLine; rw [sizeLine_eq]; decide) (by show 0 ≤ sizeLine + 1; exact Nat.zero_le _)
  have I3 := I2.lset (f := (·.pop)) (its := [u4]) (its' := []) (ys := []) (t' := s.toks) upd_same e4 (by rfl) .nil (Nat.zero_le _)
  rw [upd_upd] at I3
  have hH : upd H q (.lst []) = H := by
    funext b
    by_cases hb : b = q
    · rw [hb, upd_same, hqH]
    · rw [upd_ne hb]
  rw [hH] at I3
  refine wpAny_pure ⟨plainId_quiet PySem.F.plain_extend_loop _, ext_loop hK hh D hq0 hqf hz hR _ 0 H _ rfl (Nat.zero_le _) ⟨I3, L.sr, L.tk, L.ra, L.tb, (L.st.upd e3 hqf).upd e4 hqf, L.fp⟩⟩
end
/-- list(zip(a, b)) of a list and a tuple -/
def tLZ (Z : Nm) (K : PySem.W.Frag) (ta : TA) : TE := fun σ H Q => ta σ H fun vs H1 => ∃ (a b : Addr) (ds es : List D) (S : Sto), vs = [.ref a, .ref b] ∧ SR Z S H1 ∧ rd S a = some ds ∧ (∃ us, TupAt K H1 b us ∧ RDs Z H1 es us) ∧ (zipD ds es).length < sizeLine ∧
  ∀ q H', S q = none → TK H1 H' → SR Z (S.upd q (.lst (zipD ds es))) H' → Q (.ref q) H'
theorem pe_lzip {X : Cx} {Z : Nm} {e e2 : Expr} {ta : TA} {p p2 pos pos2 : Pos} (hK : Z.K = X.K) (hc : X.calm = true) (hg : Gl X "list") (hm : X.mg "list" = none) (hg2 : Gl X "zip") (hm2 : X.mg "zip" = none) (ha : PA X [e, e2] ta)
    (hs : starEach [e, e2] X.env = (false, eval e X.env) :: starEach [e2] X.env) (hpl : (backTo pos2 (starEach [e2] X.env)).any (·.1) = false) :
    PE X (.Call (.Name "list" p) [.Call (.Name "zip" p2) [e, e2] [] pos2] [] pos) (tLZ Z X.K ta) := by
  refine ⟨fun pins s σ H Q I h => ?_⟩
  refine Call_ (ld_blt I hg hm PyProof.Rows.boot_list ?_)
  refine PyProof.Rows.callWith_type1 (PyProof.Rows.args_cons ?_ rfl) rfl rfl
  refine Call_ (ld_blt I hg2 hm2 PyProof.Rows.boot_zip (PyProof.Rows.callWith_type1 (thn (ha.run pos2 pins s σ H _ I h) fun us s1 ⟨vs, H1, I1, r1, q1⟩ => ?_) hs hpl))
  obtain ⟨a, b, ds, es, S, ex, sr, ra, ⟨ws, tb, ru⟩, hz, q1⟩ := q1
  subst ex
  cases r1 with
  | cons r rr =>
    cases rr with
    | cons r' rr =>
      cases rr
      cases r
      cases r'
      obtain ⟨xs, hqx, rx⟩ := rdAt (K := X.K) sr ra
      obtain ⟨its, rv, p1, _⟩ := I1.list hqx
      obtain ⟨its2, rv2, p2, _⟩ := I1.tuple tb.sq
      obtain ⟨o2, ho2, _⟩ := id p2
      have fresh5 : ∀ c, c ∈ [s1.heap.objs.size + 4, s1.heap.objs.size + 2, s1.heap.objs.size + 3, s1.heap.objs.size, s1.heap.objs.size + 1] → FpOk X pins H1 c := fun c hcm => by
        have e' : c = s1.heap.objs.size + 4 ∨ c = s1.heap.objs.size + 2 ∨ c = s1.heap.objs.size + 3 ∨ c = s1.heap.objs.size ∨ c = s1.heap.objs.size + 1 := by simpa using hcm
        have hle : s1.heap.objs.size ≤ c := by
          rcases e' with z | z | z | z | z
          · rw [z]; exact Nat.le_add_right _ _
          · rw [z]; exact Nat.le_add_right _ _
          · rw [z]; exact Nat.le_add_right _ _
          · rw [z]; exact Nat.le_refl _
          · rw [z]; exact Nat.le_add_right _ _
        exact I1.fpOk hle (I1.hok.fresh hle)
      refine call_zip p1.isList (show s1.heap.IsTuple b its2.toArray from p2) fun h' hzp hTI hTO h1 h2 hsz hk => ?_
      have I2 : Inv X pins σ H1 { s1 with heap := h' } := I1.kept (t' := s1.toks) hk
      have D : ZipApart (s1.heap.objs.size + 4) (s1.heap.objs.size + 2) (s1.heap.objs.size + 3) s1.heap.objs.size (s1.heap.objs.size + 1) a b := PySem.W.ktu_apart s1.heap.objs.size a b p1.lt (Heap.lt_size ho2)
      refine PyProof.Rows.args_nil ?_
      refine callType_codes (Q₁ := fun obj s₁ => obj = .ref h'.objs.size ∧ s₁ = { s1 with heap := h'.push { cls := .type "list", data := .seq #[] } }) PySem.F.called_list (PySem.F.typeCall_list_1 _) PySem.F.entry_list_init
        (code_list_new _ ⟨rfl, rfl⟩) fun obj s₁ h₁ => ?_
      obtain ⟨rfl, rfl⟩ := h₁
      have hS : (h'.push { cls := .type "list", data := .seq #[] }).get? h'.objs.size = some { cls := .type "list", data := .seq #[] } := Heap.get?_push_size _ rfl
      refine ⟨⟨_, hS, rfl⟩, PySem.F.args_list_init_2 _ _, ?_⟩
      have fr : H1 h'.objs.size = none := I2.hok.fresh (Nat.le_refl _)
      have I3 : Inv X pins σ (upd H1 h'.objs.size (.lst [])) { s1 with heap := h'.push { cls := .type "list", data := .seq #[] } } := I2.lnew (its := []) (t' := s1.toks) .nil (Nat.zero_le _)
      show wpAny _ _ (do let old ← Builtin.List.listItems (.ref h'.objs.size); Builtin.List.listUpdate (.ref h'.objs.size) (fun _ => #[]); letGo old.toList.reverse; Builtin.List.listExtendWith (.ref h'.objs.size) (.ref (s1.heap.objs.size + 4)) .none) _ _ _
      refine wpAny_bind ?_
      unfold Builtin.List.listItems
      refine wpAny_bind (wpAny_seqItems hS rfl (wpAny_pure ?_))
      show wpAny _ _ (updateSeq h'.objs.size (fun _ => #[]) >>= fun _ => letGo (#[] : Array Value).toList.reverse >>= fun _ => Builtin.List.listExtendWith (.ref h'.objs.size) (.ref (s1.heap.objs.size + 4)) .none) _ _ _
      refine wpAny_bind (wpAny_updateSeq hS rfl ?_)
      have I4 := I3.lset (f := fun _ => #[]) (its := []) (its' := []) (ys := []) (t' := s1.toks) upd_same hS rfl .nil (Nat.zero_le _)
      rw [upd_upd] at I4
      refine wpAny_bind (wpAny_letGo ?_)
      have tk0 : TK H1 (upd H1 h'.objs.size (.lst [])) := TK.new fr
      have hq0 : S h'.objs.size = none := sr.free fr
      have hqf : h'.objs.size ∉ [s1.heap.objs.size + 4, s1.heap.objs.size + 2, s1.heap.objs.size + 3, s1.heap.objs.size, s1.heap.objs.size + 1] := by
        rw [hsz]
        simp only [List.mem_cons, List.not_mem_nil, or_false]
        omega
      have up : ∀ c o, c ≠ h'.objs.size → h'.get? c = some o → ((h'.push { cls := .type "list", data := .seq #[] }).update h'.objs.size (Obj.mapSeq fun _ => (#[] : Array Value))).get? c = some o := fun c o hcq ho =>
        (Heap.get?_update_other _ _ (Ne.symm hcq)).trans (Heap.get?_push_of_some _ ho)
      have n4 : s1.heap.objs.size + 4 ≠ h'.objs.size := by rw [hsz]; omega
      have n3 : s1.heap.objs.size + 3 ≠ h'.objs.size := by rw [hsz]; omega
      have n2 : s1.heap.objs.size + 2 ≠ h'.objs.size := by rw [hsz]; omega
      have n1 : s1.heap.objs.size + 1 ≠ h'.objs.size := by rw [hsz]; omega
      have n0 : s1.heap.objs.size ≠ h'.objs.size := by rw [hsz]; omega
      refine zip_extend (A1 := X.A.in1) (Rs := wants (fun r s₂ => r = .none ∧ EP X pins σ Q (.ref h'.objs.size) s₂) X.xe) hK (I1.ok.hd hc) D hq0 hqf hz (up _ _ n4 hzp) ⟨I4, ?_, tk0, ra, ⟨ws, tb.keep tk0, ru.keep tk0⟩, ⟨up _ _ n2 hTI, h1.at fun o q => up _ _ n0 q, h2.at fun o q => up _ _ n1 q, ⟨_, _, up _ _ n3 hTO⟩, .inl (up _ _ n4 hzp)⟩, fun c hcm => ⟨?_, (fresh5 c hcm).2⟩⟩ ?_
      · rw [List.take_zero]
        exact sr.put (c := .lst []) tk0 ⟨[], upd_same, .nil⟩
      · rw [upd_ne (fun e => hqf (by rw [← e]; exact hcm))]; exact (fresh5 c hcm).1
      · exact fun H' s' I' sr' tk' => ⟨rfl, .ref h'.objs.size, H', I', rfl, q1 _ _ hq0 tk' sr'⟩
/-! ### t += u of tuples -/
theorem noI_tuple_add : typeLookup (.type "tuple") (dunderI "add") = pure none := by rw [typeLookup_type, builtinLookup_eq_fast]; kernel_rfl
section
variable {prog : Program} {w : World} {A : Around} {E : Value → Shared → Prop} {s : Shared}
theorem iconcat_meets {T id : String} {B : Builtin} {a b : Value} {S : PySem.Spec} {Q : Value → Shared → Prop} (ha : s.TypeIs a T) (hb : s.TypeIs b T) (hno : typeLookup (.type T) (dunderI "add") = pure none)
    (hfill : fillsNumberSlot (.type T) "add" = pure false) (hseq : seqSlot? (.type T) "__add__" = pure (some (.builtin id))) (slot : Slot T "__add__" id)
    (entry : entryFor table id = some B) (args : argsOk id ⟨[a, b], []⟩) (g : Meets (B ⟨[a, b], []⟩) S) (h : S A (wants Q E) s) : wpAny (model prog w) A (inplaceOp .Add a b) Q E s :=
  wpAny_inplaceOp_concat ha hb hno hfill hseq (call_meets slot ha entry args g h)
end
section
open HT
variable {prog : Program} {w : World} {A : Around} {E : Value → Shared → Prop} {s : Shared}
theorem icat_tup0 {t b : Addr} {ws : List Value} {Q : Value → Shared → Prop} (ht : IsTup s.heap t ([] : List Value).toArray) (hb : IsTup s.heap b ws.toArray) (h : Q (.ref b) s) : wpAny (model prog w) A (inplaceOp .Add (.ref t) (.ref b)) Q E s := by
  obtain ⟨⟨cls, dd, data, sl⟩, ho, hc, n, hd⟩ := id ht
  obtain ⟨⟨cls2, dd2, data2, sl2⟩, ho2, hc2, n2, hd2⟩ := id hb
  simp only at hc hd hc2 hd2
  subst hc hd hc2 hd2
  exact iconcat_meets ⟨_, ho, rfl⟩ ⟨_, ho2, rfl⟩ noI_tuple_add noFill_tuple_add seq_tuple_add PySem.F.slot_tuple_add PySem.F.entry_tuple_add (PySem.F.args_tuple_add_2 _ _)
    (tuple_addW0 t b ([] : List Value).toArray ws.toArray n n2 dd dd2 sl sl2 (by simp)) ⟨ho, ho2, h⟩
theorem icat_tup {t b : Addr} {vs ws : List Value} {Q : Value → Shared → Prop} (ht : IsTup s.heap t vs.toArray) (hb : IsTup s.heap b ws.toArray) (hv : vs ≠ [])
    (h1 : ws = [] → Q (.ref t) s) (h2 : ws ≠ [] → Q (.ref s.heap.objs.size) { s with heap := s.heap.push { cls := .type "tuple", data := .seq (vs ++ ws).toArray } })
    (hsz : vs.length + ws.length ≤ sizeLine) : wpAny (model prog w) A (inplaceOp .Add (.ref t) (.ref b)) Q E s := by
  obtain ⟨⟨cls, dd, data, sl⟩, ho, hc, n, hd⟩ := id ht
  obtain ⟨⟨cls2, dd2, data2, sl2⟩, ho2, hc2, n2, hd2⟩ := id hb
  simp only at hc hd hc2 hd2
  subst hc hd hc2 hd2
  have e : vs.toArray ++ ws.toArray = (vs ++ ws).toArray := by simp
  by_cases hw : ws = []
  · exact iconcat_meets ⟨_, ho, rfl⟩ ⟨_, ho2, rfl⟩ noI_tuple_add noFill_tuple_add seq_tuple_add PySem.F.slot_tuple_add PySem.F.entry_tuple_add (PySem.F.args_tuple_add_2 _ _)
      (tuple_addW1 t b vs.toArray ws.toArray n n2 dd dd2 sl sl2 (by simpa using hv) (by simp [hw])) ⟨ho, ho2, h1 hw⟩
  · refine iconcat_meets ⟨_, ho, rfl⟩ ⟨_, ho2, rfl⟩ noI_tuple_add noFill_tuple_add seq_tuple_add PySem.F.slot_tuple_add PySem.F.entry_tuple_add (PySem.F.args_tuple_add_2 _ _)
      (tuple_addW2 t b vs.toArray ws.toArray n n2 dd dd2 sl sl2 (by simpa using hv) (by simpa using hw) (by rw [List.size_toArray, List.size_toArray]; exact hsz)) ⟨ho, ho2, ?_⟩
    rw [e]
    exact h2 hw
end
theorem iop_catA {X : Cx} : OpR X (inplaceOp .Add) (rCatA X.K) := by
  intro pins s σ H x y v u Q I rx ry h
  obtain ⟨a, b, xs, ys, rfl, rfl, ha, hb, hz, q0, q1, q2⟩ := h
  cases rx
  cases ry
  obtain ⟨its, r1, p1, _⟩ := I.tuple ha
  obtain ⟨its2, r2, p2, _⟩ := I.tuple hb
  by_cases hx : xs = []
  · subst hx
    cases r1
    exact icat_tup0 p1 p2 ⟨.ref b, H, I, rfl, q0 rfl⟩
  · refine icat_tup p1 p2 (fun z => hx (r1.nil_iff.mp z)) (fun z => ⟨.ref a, H, I, rfl, q1 hx (r2.nil_iff.mp z)⟩) (fun z => ?_) (by rw [← r1.length, ← r2.length]; exact hz)
    refine ⟨.ref s.heap.objs.size, _, I.laid (t' := s.toks) (o := .tup (xs ++ ys)) (fun b ob q => Heap.get?_push_of_some _ q) (Nat.le_refl _) ?_, rfl, q2 hx (fun w => z (r2.nil_iff.mpr w)) _ (I.hok.fresh (Nat.le_refl _))⟩
    exact ⟨by rw [List.length_append]; exact hz, _, r1.append r2, IsTup.new _ _⟩
end ZM
end Mini
end L2
/-! Mini: a sign times a number; repr of a bool -/
namespace L2
namespace Mini
namespace ZM
open PySem PySem.Spec PyProof.Rows
section
variable {X : Cx}
theorem st_mul1 (c : Nat) (k : Int) : Txt.mul (st [c]) k = st (List.replicate k.toNat c) := by
  refine PySem.Str.ext' (Array.toList_inj.mp ?_)
  have := mul_one_list c k
  show (Txt.mul (st [c]) k).cps.toList = _
  rw [show st [c] = (⟨#[c]⟩ : Str) from rfl, this]
  simp [st]
theorem op_mul_s1 : OpR X (binaryOp .Mult) (fun x y H Q => ∃ c k, x = V.str (st [c]) ∧ y = .int k ∧ 0 ≤ k ∧ k ≤ 1000000 ∧ Q (.str (st (List.replicate k.toNat c))) H) := by
  intro pins s σ H x y v u Q I rx ry h
  obtain ⟨c, k, rfl, rfl, h0, h1, q⟩ := h
  obtain ⟨t, rfl⟩ := rx
  obtain ⟨t2, rfl⟩ := ry
  have hl : (st [c]).length = 1 := by simp [st_length]
  refine PySem.SB.mul (x := st [c]) ⟨?_, fun h _ => ?_, fun h _ => ?_⟩ fun t' k' => ?_
  · rw [decide_eq_false (by omega), decide_eq_false (by omega)] <;> rfl
  · rw [hl]
    have : (1 : Int) ≤ (2 ^ 63 - 1) / k := by
      refine Int.le_ediv_of_mul_le (by omega) (by omega)
    omega
  · rw [hl]
    exact decide_eq_false (by rw [sizeLine_eq]; omega)
  · rw [st_mul1]
    exact ⟨.str _, H, I.tok _, ⟨_, rfl⟩, q⟩
theorem call_repr_bl : CallR X (.builtin "repr") (fun xs H Q => ∃ b, xs = [.bl b] ∧ Q (.str (if b then "True" else "False")) H) := by
  intro pins s σ H xs us Q I r h
  obtain ⟨b, rfl, q⟩ := h
  obtain ⟨u, rfl, rfl⟩ := vals1 r
  exact PySem.P.repr_of_bool ⟨.str _, H, I.tok _, ⟨_, rfl⟩, q⟩
end
end ZM
end Mini
end L2
namespace L2
namespace Mini
open PySem PySem.Spec PyProof.Rows
section
variable {X : Cx} {Z : Nm} {S : Sto} {H : Hp} {Qa : QD} {Q : VK}
/-! ### keys of dicts -/
theorem RK.val : ∀ {kvs : List (Ky × D)} {gs : List (Key × V)}, RK Z H kvs gs → ∀ k : Ky, (dget kvs k = none ∧ valV gs (kyS k) = none) ∨ ∃ d v, dget kvs k = some d ∧ valV gs (kyS k) = some v ∧ RD Z H d v
  | _, _, .nil, k => .inl ⟨rfl, rfl⟩
  | _, _, .cons (k := k0) (d := d) (v := v) (ks := ks) (gs := gs) r t, k => by
    by_cases e : k0 = k
    · subst e
      exact .inr ⟨d, v, by simp [dget], valV_pos rfl, r⟩
    · have e2 : ¬ (kyS k0, v).1 = kyS k := fun q => e (kyS_inj q)
      rw [valV_neg e2]
      have h1 : dget ((k0, d) :: ks) k = dget ks k := by simp [dget, List.find?_cons, e]
      rw [h1]
      exact RK.val t k
theorem RK.length : ∀ {kvs : List (Ky × D)} {gs : List (Key × V)}, RK Z H kvs gs → kvs.length = gs.length
  | _, _, .nil => rfl
  | _, _, .cons _ t => congrArg Nat.succ (RK.length t)
theorem RK.anyk : ∀ {kvs : List (Ky × D)} {gs : List (Key × V)}, RK Z H kvs gs → ∀ k : Ky, (kvs.any fun p => decide (p.1 = k)) = gs.any fun p => decide (p.1 = kyS k)
  | _, _, .nil, k => rfl
  | _, _, .cons (k := k0) r t, k => by
    rw [List.any_cons, List.any_cons, RK.anyk t k]
    by_cases e : k0 = k
    · subst e; simp
    · have e2 : ¬ kyS k0 = kyS k := fun q => e (kyS_inj q)
      simp [e, e2]
theorem RK.mapk {d : D} {v : V} (rd : RD Z H d v) (k : Ky) : ∀ {kvs : List (Ky × D)} {gs : List (Key × V)}, RK Z H kvs gs →
    RK Z H (kvs.map fun p => if p.1 = k then (p.1, d) else p) (gs.map fun p => if p.1 = kyS k then (p.1, v) else p)
  | _, _, .nil => .nil
  | _, _, .cons (k := k0) (d := d0) (v := v0) r t => by
    rw [List.map_cons, List.map_cons]
    by_cases e : k0 = k
    · subst e
      rw [if_pos rfl, if_pos rfl]
      exact .cons rd (RK.mapk rd k0 t)
    · have e2 : ¬ kyS k0 = kyS k := fun q => e (kyS_inj q)
      rw [if_neg e, if_neg e2]
      exact .cons r (RK.mapk rd k t)
theorem RK.snoc {d : D} {v : V} (rd : RD Z H d v) (k : Ky) : ∀ {kvs : List (Ky × D)} {gs : List (Key × V)}, RK Z H kvs gs → RK Z H (kvs ++ [(k, d)]) (gs ++ [(kyS k, v)])
  | _, _, .nil => .cons rd .nil
  | _, _, .cons r t => .cons r (RK.snoc rd k t)
theorem RK.put {d : D} {v : V} (rd : RD Z H d v) (k : Ky) {kvs : List (Ky × D)} {gs : List (Key × V)} (r : RK Z H kvs gs) : RK Z H (dput kvs k d) (putK gs (kyS k) v) := by
  unfold dput putK
  rw [r.anyk k]
  split
  · exact r.mapk rd k
  · exact r.snoc rd k
theorem RF.get (f : Nat) (hf : f < Z.nf) : ∀ {fs : List (Nat × D)} {gs : List (Str × V)} {d : D}, RF Z H fs gs → fget fs f = some d → ∃ v, gs.lookup (Z.fld f) = some v ∧ RD Z H d v
  | _, _, _, .nil, e => by cases e
  | _, _, d, .cons (i := i) (v := v) (gs := gs) l r t, e => by
    unfold fget at e
    by_cases q : f = i
    · subst q
      rw [if_pos rfl] at e
      cases e
      refine ⟨v, ?_, r⟩
      rw [List.lookup_cons]; simp
    · rw [if_neg q] at e
      obtain ⟨u, h1, h2⟩ := RF.get f hf t e
      refine ⟨u, ?_, h2⟩
      rw [List.lookup_cons]
      have hb : (Z.fld f == Z.fld i) = false := beq_eq_false_iff_ne.mpr fun z => q (Z.inj _ _ hf l z)
      rw [hb]; exact h1
theorem RF.put (f : Nat) (hf : f < Z.nf) {d : D} {v : V} (rd : RD Z H d v) : ∀ {fs : List (Nat × D)} {gs : List (Str × V)}, RF Z H fs gs → RF Z H (fput f d fs) (putF (Z.fld f) v gs)
  | _, _, .nil => .cons hf rd .nil
  | _, _, .cons (i := i) l r t => by
    unfold fput putF
    by_cases q : i = f
    · subst q
      rw [if_pos rfl, if_pos rfl]
      exact .cons l rd t
    · rw [if_neg q, if_neg fun z => q (Z.inj _ _ l hf z)]
      exact .cons l r (RF.put f hf rd t)
theorem RF.length : ∀ {fs : List (Nat × D)} {gs : List (Str × V)}, RF Z H fs gs → fs.length = gs.length
  | _, _, .nil => rfl
  | _, _, .cons _ _ t => congrArg Nat.succ (RF.length t)
/-- no method's name is an attribute -/
theorem RF.none (m : Str) (hm : ∀ i, i < Z.nf → Z.fld i ≠ m) : ∀ {fs : List (Nat × D)} {gs : List (Str × V)}, RF Z H fs gs → gs.lookup m = Option.none
  | _, _, .nil => rfl
  | _, _, .cons (i := i) l r t => by
    rw [List.lookup_cons]
    have hb : (m == Z.fld i) = false := beq_eq_false_iff_ne.mpr fun z => hm i l z.symm
    rw [hb]; exact RF.none m hm t
/-! ### in -/
theorem op_inDict (hu : X.A.units + 1 < cLine) : OpR X (compareOp .In) (fun x y H Q => ∃ a o, y = .ref a ∧ DGet H a x o ∧ Q (.bl o.isSome) H) := by
  intro pins s σ H x y v u Q I rx ry h
  obtain ⟨a, o, rfl, g, q⟩ := h
  cases ry
  exact d_in hu I g rx fun s' I' => ⟨.bl _, H, I', rfl, q⟩
theorem op_notInDict (hu : X.A.units + 1 < cLine) : OpR X (compareOp .NotIn) (fun x y H Q => ∃ a o, y = .ref a ∧ DGet H a x o ∧ Q (.bl (!o.isSome)) H) := by
  intro pins s σ H x y v u Q I rx ry h
  obtain ⟨a, o, rfl, g, q⟩ := h
  cases ry
  exact d_notIn hu I g rx fun s' I' => ⟨.bl _, H, I', rfl, q⟩
theorem op_inR (hu : X.A.units + 190 < cLine) : OpR X (compareOp .In) (fun x y H Q => ∃ d ds, Dp X.K H x d ∧ (Dp X.K H y (.list ds) ∨ Dp X.K H y (.tuple ds)) ∧ d.canLay0 = true ∧ PyData.canLayAll0 ds = true ∧ d.depth ≤ 180 ∧ Q (.bl (ds.any fun z => PyData.eqv z d)) H) := by
  intro pins s σ H x y v u Q I rx ry h
  obtain ⟨d, ds, hd, he, sd, se, hr, q⟩ := h
  obtain ⟨as, r1⟩ := Dp.reads I d x v hd rx
  have hm : min (PyData.depthAll ds) d.depth ≤ d.depth := Nat.min_le_right _ _
  rcases he with he | he
  · obtain ⟨bs, r2⟩ := Dp.reads I (.list ds) y u he ry
    exact SeqAt.in_list_reads r2 r1 se sd (by omega) ⟨.bl _, H, I, rfl, q⟩
  · obtain ⟨bs, r2⟩ := Dp.reads I (.tuple ds) y u he ry
    exact SeqAt.in_tuple_reads r2 r1 se sd (by omega) ⟨.bl _, H, I, rfl, q⟩
theorem op_notInR (hu : X.A.units + 190 < cLine) : OpR X (compareOp .NotIn) (fun x y H Q => ∃ d ds, Dp X.K H x d ∧ (Dp X.K H y (.list ds) ∨ Dp X.K H y (.tuple ds)) ∧ d.canLay0 = true ∧ PyData.canLayAll0 ds = true ∧ d.depth ≤ 180 ∧ Q (.bl (!ds.any fun z => PyData.eqv z d)) H) := by
  intro pins s σ H x y v u Q I rx ry h
  obtain ⟨d, ds, hd, he, sd, se, hr, q⟩ := h
  obtain ⟨as, r1⟩ := Dp.reads I d x v hd rx
  have hm : min (PyData.depthAll ds) d.depth ≤ d.depth := Nat.min_le_right _ _
  rcases he with he | he
  · obtain ⟨bs, r2⟩ := Dp.reads I (.list ds) y u he ry
    exact SeqAt.notIn_list_reads r2 r1 se sd (by omega) ⟨.bl _, H, I, rfl, q⟩
  · obtain ⟨bs, r2⟩ := Dp.reads I (.tuple ds) y u he ry
    exact SeqAt.notIn_tuple_reads r2 r1 se sd (by omega) ⟨.bl _, H, I, rfl, q⟩
theorem getK {k : Ky} {kvs : List (Ky × D)} {gs : List (Key × V)} {a : Addr} (e : H a = some (.dK gs)) (r : RK Z H kvs gs) (k : Ky) : ∃ o, DGet H a (kV (kyS k)) o ∧ o.isSome = (dget kvs k).isSome := by
  refine ⟨_, DGet.k e, ?_⟩
  rcases r.val k with ⟨h1, h2⟩ | ⟨d, v, h1, h2, _⟩ <;> rw [h1, h2] <;> rfl
def inOp (neg : Bool) : CmpOp := if neg then .NotIn else .In
theorem in_ok (hK : Z.K = X.K) (hu : X.A.units + 190 < cLine) {neg : Bool} {x y : D} {v u : V} (sr : SR Z S H) (rx : RD Z H x v) (ry : RD Z H y u) (h : inW x y neg S Qa) (q : Kq Z H Qa Q) : rAny X (compareOp (inOp neg)) v u H Q := by
  have lst : ∀ {ds : List D} {a : Addr}, rd S a = some ds → ∀ r, inW.InL S x ds r → Qa (.bl (neg ^^ r)) S → rAny X (compareOp (inOp neg)) v (.ref a) H Q := fun {ds a} e r ⟨p, ps, p1, p2, hd, er⟩ h => by
    subst er
    cases neg with
    | false => exact ⟨_, op_inR hu, p, ps, p1.dp hK sr rx, .inl (PD.dp hK sr (.ref e p2) .ref), p1.lay, p2.lay, hd, q.pure sr .bl (by simpa using h)⟩
    | true => exact ⟨_, op_notInR hu, p, ps, p1.dp hK sr rx, .inl (PD.dp hK sr (.ref e p2) .ref), p1.lay, p2.lay, hd, q.pure sr .bl (by simpa using h)⟩
  have tup : ∀ {ds : List D}, RD Z H (.tup ds) u → ∀ r, inW.InL S x ds r → Qa (.bl (neg ^^ r)) S → rAny X (compareOp (inOp neg)) v u H Q := fun {ds} e r ⟨p, ps, p1, p2, hd, er⟩ h => by
    subst er
    cases neg with
    | false => exact ⟨_, op_inR hu, p, ps, p1.dp hK sr rx, .inr (PD.dp hK sr (.tup p2) e), p1.lay, p2.lay, hd, q.pure sr .bl (by simpa using h)⟩
    | true => exact ⟨_, op_notInR hu, p, ps, p1.dp hK sr rx, .inr (PD.dp hK sr (.tup p2) e), p1.lay, p2.lay, hd, q.pure sr .bl (by simpa using h)⟩
  have dct : ∀ {kvs : List (Ky × D)} {a : Addr} (k : Ky), S a = some (.dct kvs) → v = kV (kyS k) → Qa (.bl (neg ^^ (dget kvs k).isSome)) S → rAny X (compareOp (inOp neg)) v (.ref a) H Q := fun {kvs a} k e ev h => by
    obtain ⟨gs, hg, r⟩ := sr a _ e
    obtain ⟨o, g, eo⟩ := getK (k := k) hg r k
    subst ev
    rw [← eo] at h
    cases neg with
    | false => exact ⟨_, op_inDict (by omega), a, o, rfl, g, q.pure sr .bl (by simpa using h)⟩
    | true => exact ⟨_, op_notInDict (by omega), a, o, rfl, g, q.pure sr .bl (by simpa using h)⟩
  unfold inW at h
  split at h
  · rename_i c b
    cases rx; cases ry
    have e : (b.contains c) = decide (c ∈ (st b).cps.toList) := by rw [st_cps]; simp
    rw [e] at h
    cases neg with
    | false => exact ⟨_, op_in_sign, c, st b, rfl, rfl, q.pure sr .bl (by simpa using h)⟩
    | true => exact ⟨_, op_notIn_sign, c, st b, rfl, rfl, q.pure sr .bl (by simpa using h)⟩
  · rename_i a _
    cases ry
    split at h
    · rename_i kvs e
      split at h
      · cases rx; exact dct (.inl _) e rfl h
      · cases rx; exact dct (.inr _) e rfl h
      · exact h.elim
    · rename_i ds e
      obtain ⟨r, h1, h2⟩ := h
      exact lst (by unfold rd; rw [e]) r h1 h2
    · rename_i ds e
      obtain ⟨r, h1, h2⟩ := h
      exact lst (by unfold rd; rw [e]) r h1 h2
    · exact h.elim
  · obtain ⟨r, h1, h2⟩ := h
    exact tup ry r h1 h2
  · exact h.elim
/-! ### comparisons -/
def copOf : Cop → CmpOp
  | .eq => .Eq | .ne => .NotEq | .lt => .Lt | .le => .LtE | .gt => .Gt | .ge => .GtE | .is_ => .Is | .isnot => .IsNot | .in_ => .In | .notin => .NotIn
theorem cmp_ok (hK : Z.K = X.K) (hu : X.A.units + 190 < cLine) {op : Cop} {x y : D} {v u : V} (sr : SR Z S H) (rx : RD Z H x v) (ry : RD Z H y u) (h : cmpW op x y S Qa) (q : Kq Z H Qa Q) : rAny X (compareOp (copOf op)) v u H Q := by
  cases op with
  | eq => exact eq_ok hK hu sr rx ry h q
  | ne => exact ne_ok hK hu sr rx ry h q
  | lt =>
    simp only [cmpW] at h
    split at h
    · cases rx; cases ry; exact ⟨_, op_lt, _, _, rfl, rfl, q.pure sr .bl h⟩
    · exact h.elim
  | le =>
    simp only [cmpW] at h
    split at h
    · cases rx; cases ry; exact ⟨_, op_le, _, _, rfl, rfl, q.pure sr .bl h⟩
    · exact h.elim
  | gt =>
    simp only [cmpW] at h
    split at h
    · cases rx; cases ry; exact ⟨_, op_gt, _, _, rfl, rfl, q.pure sr .bl h⟩
    · exact h.elim
  | ge =>
    simp only [cmpW] at h
    split at h
    · cases rx; cases ry; exact ⟨_, op_ge, _, _, rfl, rfl, q.pure sr .bl h⟩
    · exact h.elim
  | is_ =>
    simp only [cmpW] at h
    split at h
    · cases rx; cases ry; exact ⟨_, op_isN, rfl, q.pure sr .bl (by simpa using h)⟩
    · rename_i hn
      cases ry
      refine ⟨_, op_isN, rfl, ?_⟩
      have e : decide (v = V.non) = false := decide_eq_false fun z => by subst z; cases rx; exact hn rfl
      rw [e]; exact q.pure sr .bl h
    · exact h.elim
  | isnot =>
    simp only [cmpW] at h
    split at h
    · cases rx; cases ry; exact ⟨_, op_notN, rfl, q.pure sr .bl (by simpa using h)⟩
    · rename_i hn
      cases ry
      refine ⟨_, op_notN, rfl, ?_⟩
      have e : decide (v = V.non) = false := decide_eq_false fun z => by subst z; cases rx; exact hn rfl
      rw [e]; exact q.pure sr .bl h
    · exact h.elim
  | in_ => exact in_ok (neg := false) hK hu sr rx ry h q
  | notin => exact in_ok (neg := true) hK hu sr rx ry h q
/-! ### arithmetic and the like -/
def bopOf : Bop → Operator
  | .add => .Add | .sub => .Sub | .mul => .Mult | .fdiv => .FloorDiv | .mod => .Mod | .pow => .Pow
theorem st_app (a b : List Nat) : st a ++ st b = st (a ++ b) := by
  show (Str.mk _ : Str) = Str.mk _
  simp [st]
theorem bin_ok (hK : Z.K = X.K) {op : Bop} {x y : D} {v u : V} (sr : SR Z S H) (rx : RD Z H x v) (ry : RD Z H y u) (h : binW op x y S Qa) (q : Kq Z H Qa Q) : rAny X (binaryOp (bopOf op)) v u H Q := by
  unfold binW at h
  split at h
  · cases rx; cases ry; exact ⟨_, op_add, _, _, rfl, rfl, q.pure sr .int h⟩
  · cases rx; cases ry
    exact ⟨_, op_add_str, _, _, rfl, rfl, by rw [st_length, st_length]; exact h.1, by rw [st_app]; exact q.pure sr .str h.2⟩
  · obtain ⟨hz, h⟩ := h
    cases rx with
    | tup t1 r1 => cases ry with
      | tup t2 r2 =>
        refine ⟨_, op_catA, _, _, _, _, rfl, rfl, by rw [← hK]; exact t1.sq, by rw [← hK]; exact t2.sq, by rw [← r1.length, ← r2.length]; exact hz, fun e => ?_, fun _ e => ?_, fun _ _ => ?_⟩
        · have e' := r1.nil_iff.mpr e
          subst e'
          exact q.pure sr (.tup t2 r2) (by simpa using h)
        · have e' := r2.nil_iff.mpr e
          subst e'
          exact q.pure sr (.tup t1 r1) (by simpa using h)
        · exact q.newT sr (r1.append r2) h
  · obtain ⟨xs, ys, e1, e2, hz, h⟩ := h
    cases rx; cases ry
    obtain ⟨vs, h1, r1⟩ := lstAt sr e1
    obtain ⟨us, h2, r2⟩ := lstAt sr e2
    exact ⟨_, op_cat, _, _, _, _, rfl, rfl, h1, h2, by rw [← r1.length, ← r2.length]; exact hz, q.newL sr (r1.append r2) h⟩
  · cases rx; cases ry; exact ⟨_, op_sub, _, _, rfl, rfl, q.pure sr .int h⟩
  · cases rx; cases ry; exact ⟨_, op_mul, _, _, rfl, rfl, h.1, q.pure sr .int h.2⟩
  · obtain ⟨xs, e1, k1, k2, hz, h⟩ := h
    cases rx; cases ry
    obtain ⟨vs, h1, r1⟩ := lstAt sr e1
    exact ⟨_, op_rep, _, _, _, rfl, rfl, h1, k1, k2, by rw [← r1.length]; exact hz, q.newL sr (r1.rep _) h⟩
  · obtain ⟨k0, k1, k2, hz, h⟩ := h
    cases ry
    cases rx with
    | tup t r => exact ⟨_, op_repT, _, _, _, rfl, rfl, by rw [← hK]; exact t.sq, fun e => k0 (r.nil_iff.mpr e), k1, k2, by rw [← r.length]; exact hz, q.newT sr (r.rep _) h⟩
  · cases rx; cases ry; exact ⟨_, ZM.op_mul_s1, _, _, rfl, rfl, h.1, h.2.1, q.pure sr .str h.2.2⟩
  · cases rx; cases ry; exact ⟨_, op_fdivN, _, _, rfl, rfl, ⟨h.1, h.2.1⟩, q.pure sr .int h.2.2⟩
  · cases rx; cases ry; exact ⟨_, op_modN, _, _, rfl, rfl, h.1, q.pure sr .int h.2⟩
  · cases rx; cases ry; exact ⟨_, op_pow, _, _, rfl, rfl, ⟨h.1, h.2.1, h.2.2.1⟩, q.pure sr .int h.2.2.2⟩
  · exact h.elim
theorem aug_ok (hK : Z.K = X.K) {op : Bop} {x y : D} {v u : V} (sr : SR Z S H) (rx : RD Z H x v) (ry : RD Z H y u) (h : augW op x y S Qa) (q : Kq Z H Qa Q) : rAny X (inplaceOp (bopOf op)) v u H Q := by
  unfold augW at h
  split at h
  · cases rx; cases ry; exact ⟨_, iop_add, _, _, rfl, rfl, q.pure sr .int h⟩
  · cases rx; cases ry
    exact ⟨_, iop_add_str, _, _, rfl, rfl, by rw [st_length, st_length]; exact h.1, by rw [st_app]; exact q.pure sr .str h.2⟩
  · cases rx; cases ry; exact ⟨_, iop_sub, _, _, rfl, rfl, q.pure sr .int h⟩
  · obtain ⟨hz, h⟩ := h
    cases rx with
    | tup t1 r1 => cases ry with
      | tup t2 r2 =>
        refine ⟨_, ZM.iop_catA, _, _, _, _, rfl, rfl, by rw [← hK]; exact t1.sq, by rw [← hK]; exact t2.sq, by rw [← r1.length, ← r2.length]; exact hz, fun e => ?_, fun _ e => ?_, fun _ _ => ?_⟩
        · have e' := r1.nil_iff.mpr e
          subst e'
          exact q.pure sr (.tup t2 r2) (by simpa using h)
        · have e' := r2.nil_iff.mpr e
          subst e'
          exact q.pure sr (.tup t1 r1) (by simpa using h)
        · exact q.newT sr (r1.append r2) h
  · exact h.elim
/-! ### subscripts -/
theorem ixN_lt {n : Nat} {i : Int} {j : Nat} (h : ixN n i = some j) : j < n := (ixN_seq h).2.1
theorem atI_RDs {ds : List D} {vs : List V} {i : Int} {d : D} (r : RDs Z H ds vs) (h : atI ds i = some d) : ∃ v, atI vs i = some v ∧ RD Z H d v := by
  unfold atI at h ⊢
  rw [← r.length]
  cases e : ixN ds.length i with
  | none => rw [e] at h; cases h
  | some j =>
    rw [e] at h
    exact r.get h
theorem ix_dict (hu : X.A.units + 1 < cLine) : IxR X (fun x y H Q => ∃ a v, x = .ref a ∧ DGet H a y (some v) ∧ Q v H) := by
  intro value slice pins s σ H x y v u Q I rx ry h hs
  obtain ⟨a, w', rfl, g, q⟩ := h
  cases rx
  exact tail_any (dict_typeIs I g) PySem.F.slot_dict_getitem.lookup (d_getItem hu I g ry fun w2 s' I' rw' => ⟨w', H, I', rw', q⟩) hs
theorem ix_ok (hK : Z.K = X.K) (hu : X.A.units + 190 < cLine) {x y : D} {v u : V} (sr : SR Z S H) (rx : RD Z H x v) (ry : RD Z H y u) (h : ixW x y S Qa) (q : Kq Z H Qa Q) : ixAny X v u H Q := by
  unfold ixW at h
  split at h
  · cases ry
    cases rx with
    | tup t r =>
      obtain ⟨d, e, h⟩ := h
      obtain ⟨w', e2, r2⟩ := atI_RDs r e
      exact ⟨_, ix_tup, _, _, _, _, rfl, rfl, by rw [← hK]; exact t.sq, e2, q.pure sr r2 h⟩
  · cases rx; cases ry
    obtain ⟨hz, c, e, h⟩ := h
    exact ⟨_, ix_str, _, _, c, rfl, rfl, by rw [st_length]; exact hz, by rw [st_cps]; exact e, q.pure sr (.str (l := [c])) h⟩
  · cases rx
    split at h
    · rename_i ds i e
      cases ry
      obtain ⟨d, e2, h⟩ := h
      obtain ⟨vs, sq, r⟩ := rdAt (K := X.K) sr (show rd S _ = some ds by unfold rd; rw [e])
      obtain ⟨w', e3, r2⟩ := atI_RDs r e2
      exact ⟨_, ix_list, _, _, _, _, rfl, rfl, sq, e3, q.pure sr r2 h⟩
    · rename_i ds i e
      cases ry
      obtain ⟨d, e2, h⟩ := h
      obtain ⟨vs, sq, r⟩ := rdAt (K := X.K) sr (show rd S _ = some ds by unfold rd; rw [e])
      obtain ⟨w', e3, r2⟩ := atI_RDs r e2
      exact ⟨_, ix_list, _, _, _, _, rfl, rfl, sq, e3, q.pure sr r2 h⟩
    · rename_i kvs i e
      cases ry
      obtain ⟨d, e2, h⟩ := h
      obtain ⟨gs, hg, r⟩ := sr _ _ e
      rcases r.val (.inl i) with ⟨h1, _⟩ | ⟨d', v', h1, h2, r2⟩
      · rw [h1] at e2; cases e2
      · rw [h1] at e2; cases e2
        exact ⟨_, ix_dict (by omega), _, v', rfl, by rw [← h2]; exact DGet.k (k := kyS (.inl _)) hg, q.pure sr r2 h⟩
    · rename_i kvs l e
      cases ry
      obtain ⟨d, e2, h⟩ := h
      obtain ⟨gs, hg, r⟩ := sr _ _ e
      rcases r.val (.inr l) with ⟨h1, _⟩ | ⟨d', v', h1, h2, r2⟩
      · rw [h1] at e2; cases e2
      · rw [h1] at e2; cases e2
        exact ⟨_, ix_dict (by omega), _, v', rfl, by rw [← h2]; exact DGet.k (k := kyS (.inr _)) hg, q.pure sr r2 h⟩
    · exact h.elim
  · exact h.elim
end
end Mini
end L2
namespace L2
namespace Mini
open PySem PySem.Spec PyProof.Rows
section
variable {X : Cx} {Z : Nm} {S : Sto} {H : Hp} {Qa : QD} {Q : VK}
theorem cut_RDs {ds : List D} {vs : List V} (r : RDs Z H ds vs) (lo hi : Option Int) : RDs Z H (cutD ds lo hi) (cutV vs lo hi) := by
  unfold cutD cutV
  rw [r.length]
  exact (r.drop _).take _
theorem cut_whole {α : Type} (ds : List α) (lo hi : Option Int) (h : HT.sIx ds.length 0 lo = 0 ∧ HT.sIx ds.length ds.length hi = ds.length) : cutD ds lo hi = ds := by
  unfold cutD; rw [h.1, h.2]; simp
theorem cutS_st (l : List Nat) (lo hi : Option Int) : cutS (st l) lo hi = st (cutD l lo hi) := by
  unfold cutS cutD st
  simp [Str.length]
theorem sl_ok (hK : Z.K = X.K) {x : D} {v : V} {lo hi : Option Int} (sr : SR Z S H) (rx : RD Z H x v) (h : slW x lo hi S Qa) (q : Kq Z H Qa Q) : slAny X v lo hi H Q := by
  unfold slW at h
  split at h
  · cases rx with
    | tup t r =>
      refine ⟨_, sl_tupA, _, _, rfl, by rw [← hK]; exact t.sq, fun e => ?_, fun _ => q.newT sr (cut_RDs r lo hi) h⟩
      rw [← r.length] at e
      rw [cut_whole _ _ _ e] at h
      exact q.pure sr (.tup t r) h
  · cases rx
    exact ⟨_, sl_str, _, rfl, by rw [st_length]; exact h.1, by rw [cutS_st]; exact q.pure sr .str h.2⟩
  · obtain ⟨ds, e, h⟩ := h
    cases rx
    obtain ⟨vs, sq, r⟩ := rdAt (K := X.K) sr e
    exact ⟨_, sl_list, _, _, rfl, sq, q.newL sr (cut_RDs r lo hi) h⟩
  · exact h.elim
/-! ### built-in functions -/
def biF : Bi → Value
  | .len => .builtin "len" | .int => .type "int" | .max => .builtin "max" | .min => .builtin "min" | .sum => .builtin "sum" | .all => .builtin "all" | .any => .builtin "any" | .tuple => .type "tuple" | .list => .type "list"
  | .sortset => .none | .repr => .builtin "repr" | .str => .type "str" | .abs => .builtin "abs" | .dict0 => .none | .sorted => .builtin "sorted" | .dict => .type "dict"
theorem RDs.ints : ∀ {ds : List D} {vs : List V} {ns : List Int}, RDs Z H ds vs → intsOf ds = some ns → vs = ns.map V.int
  | [], _, _, .nil, e => by cases e; rfl
  | .int i :: ds, _, ns, .cons r t, e => by
    cases r
    unfold intsOf at e
    cases q : intsOf ds with
    | none => rw [q] at e; cases e
    | some ms => rw [q] at e; cases e; rw [RDs.ints t q]; rfl
  | .non :: _, _, _, _, e => by cases e
  | .bl _ :: _, _, _, _, e => by cases e
  | .str _ :: _, _, _, _, e => by cases e
  | .tup _ :: _, _, _, _, e => by cases e
  | .ref _ :: _, _, _, _, e => by cases e
  | .fn _ :: _, _, _, _, e => by cases e
theorem RDs.bls : ∀ {ds : List D} {vs : List V} {ns : List Bool}, RDs Z H ds vs → blsOf ds = some ns → vs = ns.map V.bl
  | [], _, _, .nil, e => by cases e; rfl
  | .bl i :: ds, _, ns, .cons r t, e => by
    cases r
    unfold blsOf at e
    cases q : blsOf ds with
    | none => rw [q] at e; cases e
    | some ms => rw [q] at e; cases e; rw [RDs.bls t q]; rfl
  | .non :: _, _, _, _, e => by cases e
  | .int _ :: _, _, _, _, e => by cases e
  | .str _ :: _, _, _, _, e => by cases e
  | .tup _ :: _, _, _, _, e => by cases e
  | .ref _ :: _, _, _, _, e => by cases e
  | .fn _ :: _, _, _, _, e => by cases e
theorem call_lenK : CallR X (.builtin "len") (fun xs H Q => ∃ a kvs, xs = [.ref a] ∧ H a = some (.dK kvs) ∧ Q (.int kvs.length) H) := by
  intro pins s σ H xs us Q I r h
  obtain ⟨a, kvs, rfl, e, q⟩ := h
  obtain ⟨u, rfl, rx⟩ := vals1 r
  cases rx
  exact d_len I (.inl e) fun t s' I' => ⟨.int _, H, I', ⟨_, rfl⟩, q⟩
theorem st_istr (i : Int) : st (istr i) = ((toString i : String) : Str) := st_of _
theorem RK.keysI : ∀ {kvs : List (Ky × D)} {gs : List (Key × V)} {ns : List Int}, RK Z H kvs gs → kvs.map (·.1) = ns.map Sum.inl → gs.map (·.1) = ns.map Sum.inl
  | _, _, [], .nil, _ => rfl
  | _, _, n :: ns, .cons r t, e => by
    simp only [List.map_cons, List.cons.injEq] at e ⊢
    obtain ⟨rfl, e⟩ := e
    exact ⟨rfl, RK.keysI t e⟩
  | _, _, [], .cons _ _, e => by cases e
  | _, _, _ :: _, .nil, e => by cases e
theorem RK.keysS : ∀ {kvs : List (Ky × D)} {gs : List (Key × V)} {ns : List (List Nat)}, RK Z H kvs gs → kvs.map (·.1) = ns.map Sum.inr → gs.map (·.1) = (ns.map st).map Sum.inr
  | _, _, [], .nil, _ => rfl
  | _, _, n :: ns, .cons r t, e => by
    simp only [List.map_cons, List.cons.injEq] at e ⊢
    obtain ⟨rfl, e⟩ := e
    exact ⟨rfl, RK.keysS t e⟩
  | _, _, [], .cons _ _, e => by cases e
  | _, _, _ :: _, .nil, e => by cases e
theorem RDs.ofInts : ∀ ys : List Int, RDs Z H (ys.map .int) (ys.map V.int)
  | [] => .nil
  | _ :: ys => .cons .int (RDs.ofInts ys)
theorem RDs.ofStrs : ∀ ys : List (List Nat), RDs Z H (ys.map .str) ((ys.map st).map V.str)
  | [] => .nil
  | _ :: ys => .cons .str (RDs.ofStrs ys)
theorem RDs.strs : ∀ {ls : List (List Nat)} {vs : List V}, RDs Z H (ls.map D.str) vs → vs = (ls.map st).map V.str
  | [], _, .nil => rfl
  | l :: ls, _, .cons r t => by cases r; rw [RDs.strs t]; rfl
/-- an arrangement of texts -/
theorem perm_st {ls : List (List Nat)} {ys : List Str} (h : ys.Perm (ls.map st)) : ∃ zs : List (List Nat), zs.Perm ls ∧ ys = zs.map st := by
  refine ⟨ys.map fun y => y.cps.toList, ?_, ?_⟩
  · have := h.map fun y : Str => y.cps.toList
    rw [List.map_map] at this
    have e : ((fun y : Str => y.cps.toList) ∘ st) = id := funext fun l => st_cps l
    rw [e, List.map_id] at this
    exact this
  · rw [List.map_map]
    have e : (st ∘ fun y : Str => y.cps.toList) = id := funext fun y => st_of y
    rw [e, List.map_id]
theorem Kq.newK {kvs : List (Ky × D)} {gs : List (Key × V)} (q : Kq Z H Qa Q) (sr : SR Z S H) (r : RK Z H kvs gs) (h : newW (.dct kvs) S Qa) : ∀ p, H p = none → Q (.ref p) (upd H p (.dK gs)) := fun p n =>
  q (.ref p) (.ref p) (S.upd p (.dct kvs)) _ (TK.new n) (sr.put (c := .dct kvs) (TK.new n) ⟨gs, upd_same, r.keep (TK.new n)⟩) .ref (h p (sr.free n))
theorem bi_ok (hK : Z.K = X.K) (hc : X.calm = true) {b : Bi} {xs : List D} {vs : List V} (sr : SR Z S H) (rx : RDs Z H xs vs) (h : biW b xs S Qa) (q : Kq Z H Qa Q) : cAny X (biF b) vs H Q := by
  unfold biW at h
  split at h
  · obtain ⟨v, rfl, r⟩ := rx.one
    cases r
    exact ⟨_, call_len_str, _, rfl, by rw [st_length]; exact h.1, by rw [st_length]; exact q.pure sr .int h.2⟩
  · obtain ⟨v, rfl, r⟩ := rx.one
    cases r with
    | tup t rs => exact ⟨_, call_len_seq, _, _, rfl, .inr (by rw [← hK]; exact t.sq), by rw [← rs.length]; exact q.pure sr .int h⟩
  · obtain ⟨v, rfl, r⟩ := rx.one
    cases r
    split at h
    · rename_i ds e
      obtain ⟨vs, sq, rs⟩ := rdAt (K := X.K) sr (show rd S _ = some ds by unfold rd; rw [e])
      exact ⟨_, call_len_seq, _, _, rfl, .inl sq, by rw [← rs.length]; exact q.pure sr .int h⟩
    · rename_i ds e
      obtain ⟨vs, sq, rs⟩ := rdAt (K := X.K) sr (show rd S _ = some ds by unfold rd; rw [e])
      exact ⟨_, call_len_seq, _, _, rfl, .inl sq, by rw [← rs.length]; exact q.pure sr .int h⟩
    · rename_i kvs e
      obtain ⟨gs, hg, r⟩ := sr _ _ e
      exact ⟨_, call_lenK, _, _, rfl, hg, by rw [← r.length]; exact q.pure sr .int h⟩
    · exact h.elim
  · obtain ⟨v, rfl, r⟩ := rx.one
    cases r
    exact ⟨_, call_int1, .inl ⟨_, rfl, q.pure sr .int h⟩⟩
  · obtain ⟨v, rfl, r⟩ := rx.one
    cases r
    exact ⟨_, call_int1, .inr ⟨_, rfl, q.pure sr .int h⟩⟩
  · obtain ⟨v, rfl, r⟩ := rx.one
    cases r
    obtain ⟨n, e, hl, h⟩ := h
    exact ⟨_, call_int_str, _, n, rfl, e, by rw [st_length]; exact hl, q.pure sr .int h⟩
  · obtain ⟨v, u, rfl, r, r2⟩ := rx.two
    cases r; cases r2
    exact ⟨_, call_max2 hc, _, _, rfl, q.pure sr .int h⟩
  · obtain ⟨v, u, rfl, r, r2⟩ := rx.two
    cases r; cases r2
    exact ⟨_, call_min2 hc, _, _, rfl, q.pure sr .int h⟩
  · obtain ⟨v, rfl, r⟩ := rx.one
    cases r
    obtain ⟨ds, ns, e, ei, hn, h⟩ := h
    obtain ⟨vs, sq, rs⟩ := rdAt (K := X.K) sr e
    rw [rs.ints ei] at sq
    exact ⟨_, cr_max hc, _, _, rfl, sq, hn, fun m h1 h2 => q.pure sr .int (h m h1 h2)⟩
  · obtain ⟨v, rfl, r⟩ := rx.one
    cases r
    obtain ⟨ds, ns, e, ei, hn, h⟩ := h
    obtain ⟨vs, sq, rs⟩ := rdAt (K := X.K) sr e
    rw [rs.ints ei] at sq
    exact ⟨_, cr_min hc, _, _, rfl, sq, hn, fun m h1 h2 => q.pure sr .int (h m h1 h2)⟩
  · obtain ⟨v, rfl, r⟩ := rx.one
    cases r
    obtain ⟨ds, ns, e, ei, h⟩ := h
    obtain ⟨vs, sq, rs⟩ := rdAt (K := X.K) sr e
    rw [rs.ints ei] at sq
    exact ⟨_, cr_sum hc, _, _, rfl, sq, q.pure sr .int h⟩
  · obtain ⟨v, rfl, r⟩ := rx.one
    cases r
    obtain ⟨ds, ns, e, ei, h⟩ := h
    obtain ⟨vs, sq, rs⟩ := rdAt (K := X.K) sr e
    rw [rs.bls ei] at sq
    exact ⟨_, cr_all hc, _, _, rfl, sq, q.pure sr .bl h⟩
  · obtain ⟨v, rfl, r⟩ := rx.one
    cases r
    obtain ⟨ds, ns, e, ei, h⟩ := h
    obtain ⟨vs, sq, rs⟩ := rdAt (K := X.K) sr e
    rw [rs.bls ei] at sq
    exact ⟨_, cr_any hc, _, _, rfl, sq, q.pure sr .bl h⟩
  · obtain ⟨v, rfl, r⟩ := rx.one
    cases r
    obtain ⟨ds, e, h⟩ := h
    obtain ⟨vs, sq, rs⟩ := rdAt (K := X.K) sr e
    exact ⟨_, call_tuple_of, _, _, rfl, .inl ⟨sq, q.newT sr rs h⟩⟩
  · obtain ⟨v, rfl, r⟩ := rx.one
    cases r with
    | tup t rs => exact ⟨_, call_tuple_of, _, _, rfl, .inr ⟨by rw [← hK]; exact t.sq, q.pure sr (.tup t rs) h⟩⟩
  · obtain ⟨v, rfl, r⟩ := rx.one
    cases r
    obtain ⟨ds, e, h⟩ := h
    obtain ⟨vs, sq, rs⟩ := rdAt (K := X.K) sr e
    exact ⟨_, call_list_of, _, _, rfl, .inl sq, q.newL sr rs h⟩
  · obtain ⟨v, rfl, r⟩ := rx.one
    cases r with
    | tup t rs => exact ⟨_, call_list_of, _, _, rfl, .inr (by rw [← hK]; exact t.sq), q.newL sr rs h⟩
  · obtain ⟨v, rfl, r⟩ := rx.one
    cases r
    exact ⟨_, call_abs, _, rfl, q.pure sr .int h⟩
  · obtain ⟨v, rfl, r⟩ := rx.one
    cases r
    exact ⟨_, call_str_int, _, rfl, h.1, by rw [← st_istr]; exact q.pure sr .str h.2⟩
  · obtain ⟨v, rfl, r⟩ := rx.one
    cases r
    exact ⟨_, SkE.call_str_str, _, rfl, q.pure sr .str h⟩
  · obtain ⟨v, rfl, r⟩ := rx.one
    cases r
    exact ⟨_, SkE.call_repr_int, _, rfl, h.1, by rw [← st_istr]; exact q.pure sr .str h.2⟩
  · obtain ⟨v, rfl, r⟩ := rx.one
    cases r
    exact ⟨_, ZM.call_repr_bl, _, rfl, by rename_i b; cases b <;> exact q.pure sr .str h⟩
  · obtain ⟨v, rfl, r⟩ := rx.one
    cases r
    split at h
    · rename_i kvs e
      obtain ⟨gs, hg, rk⟩ := sr _ _ e
      rcases h with ⟨ns, hk, hl, h⟩ | ⟨ls, hk, hl, h⟩
      · exact ⟨_, call_sortedDI hc, _, gs, ns, rfl, Rd.of hg, rk.keysI hk, hl, fun ys p h1 h2 hp => q.newL sr (RDs.ofInts ys) (h ys h1 h2) p hp⟩
      · refine ⟨_, call_sortedD hc, _, gs, ls.map st, rfl, Rd.of hg, rk.keysS hk, by rw [List.length_map]; exact hl, fun ys p h1 h2 hp => ?_⟩
        obtain ⟨zs, hz, rfl⟩ := perm_st h1
        exact q.newL sr (RDs.ofStrs zs) (h zs hz h2) p hp
    · rename_i ds e
      obtain ⟨vs, sq, rs⟩ := rdAt (K := X.K) sr (show rd S _ = some ds by unfold rd; rw [e])
      rcases h with ⟨ns, hk, h⟩ | ⟨ls, hk, hl, h⟩
      · rw [rs.ints hk] at sq
        exact ⟨_, cr_sortedI, _, ns, rfl, sq, fun ys p h1 h2 hp => q.newL sr (RDs.ofInts ys) (h ys h1 h2) p hp⟩
      · subst hk
        rw [rs.strs] at sq
        refine ⟨_, cr_sortedS, _, ls.map st, rfl, sq, by rw [List.length_map]; exact hl, fun ys p h1 h2 hp => ?_⟩
        obtain ⟨zs, hz, rfl⟩ := perm_st h1
        exact q.newL sr (RDs.ofStrs zs) (h zs hz h2) p hp
    · exact h.elim
  · obtain ⟨v, rfl, r⟩ := rx.one
    cases r
    split at h
    · rename_i kvs e
      obtain ⟨gs, hg, rk⟩ := sr _ _ e
      exact ⟨_, call_dictD, _, gs, rfl, Rd.of hg, fun p hp => q.newK sr rk h p hp⟩
    · exact h.elim
  · exact h.elim
/-! ### methods of lists -/
def bmId : Bm → String
  | .append => "list.append" | .pop => "list.pop" | .extend => "list.extend" | .count => "str.count" | .index => "list.index" | .split => "str.split" | .join => "str.join" | .startswith => "str.startswith"
theorem Kq.setL {a : Addr} {ds : List D} {vs us : List V} {d : D} {v : V} (q : Kq Z H Qa Q) (sr : SR Z S H) (e : H a = some (.lst us)) (r : RDs Z H ds vs) (rd : RD Z H d v) (h : Qa d (S.upd a (.lst ds))) : Q v (upd H a (.lst vs)) :=
  have k : TK H (upd H a (.lst vs)) := TK.mut e trivial
  q d v _ _ k (sr.put (c := .lst ds) k ⟨vs, upd_same, r.keep k⟩) (rd.keep k) h
set_option maxRecDepth 8000 in
/-- a list extended by any tuple -/
theorem ext_tup (l b : Addr) (xs ys : Array Value) (n : Nat) (hs : xs.size + ys.size ≤ sizeLine) :
    Meets (Builtin.«list.extend» ⟨[.ref l, .ref b], []⟩) fun _ R s =>
      (∃ ol : Obj, ol = { cls := .type "list", dict := none, data := .seq xs n, slots := #[] } ∧ s.heap.get? l = some ol) ∧ IsTup s.heap b ys ∧
      R (.ok (.ret Value.none)) { s with heap := s.heap.update l (Obj.mapSeq (· ++ ys)), toks := s.toks } := by
  refine .of_wp fun prog w A R s h => ?_
  obtain ⟨hp, g, d, tk, os⟩ := s
  obtain ⟨⟨_, rfl, hl⟩, ⟨⟨cl, di, da, sl⟩, hb, hc, m, hd⟩, h⟩ := h
  dsimp only at hc hd
  subst hc hd
  have f1 := AutoSeq1.idx_int
  have f2 := PyProof.Rows.sub_tuple_tuple
  have f3 := PyProof.Rows.sub_list_list
  have f4 := PyProof.Rows.sub_tuple_list
  have f5 := PyProof.Rows.sub_list_tuple
  have hs1 : xs.size ≤ sizeLine := by omega
  have hs2 : (xs ++ ys).size ≤ sizeLine + 1 := by rw [Array.size_append]; omega
  have hs0 : ¬(!xs.isEmpty && Builtin.List.listTooLong (xs.size + ys.size)) = true := by
    rw [notLongL hs, Bool.and_false]
    exact Bool.false_ne_true
  wp_walk using (wpAny_updateSeq hl rfl (hz := hs1) (_hz' := hs2)), AutoSeq1.wpAny_loadPart' hl, AutoSeq1.wpAny_loadPart' hb
  exact ⟨_, rfl, h⟩
def rExtendT (K : PySem.W.Frag) : V → List V → Hp → VK → Prop := fun x vs H Q => ∃ l b xs zs, x = .ref l ∧ vs = [.ref b] ∧ H l = some (.lst xs) ∧ SqT K H b zs ∧ xs.length + zs.length ≤ sizeLine ∧ Q .non (upd H l (.lst (xs ++ zs)))
theorem mt_extendT : MtR X "list.extend" (rExtendT X.K) := by
  intro pins s σ H x vs v us Q I rx rv h
  obtain ⟨l, b, xs, zs, rfl, rfl, hH, hB, hz, q⟩ := h
  cases rx
  obtain ⟨u, rfl, ru⟩ := rv.one
  cases ru
  obtain ⟨z, its, n, r, hl, e⟩ := I.lstM hH
  obtain ⟨its2, r2, t2, z2⟩ := I.tuple hB
  have l1 := r.length
  have l2 := r2.length
  refine call_meets PySem.F.slot_list_extend ⟨_, e, rfl⟩ PySem.F.entry_list_extend (PySem.F.args_list_extend_2 _ _) (ext_tup l b its.toArray its2.toArray n (by rw [List.size_toArray, List.size_toArray]; omega)) ⟨⟨_, rfl, e⟩, t2, ?_⟩
  refine ⟨.non, _, I.lset (its' := its ++ its2) hH e (by simp) (r.append r2) ?_, rfl, q⟩
  rw [List.length_append]
  omega
theorem bm_ok (hK : Z.K = X.K) (hu : X.A.units + 190 < cLine) (hc : X.calm = true) {m : Bm} {o : D} {x : V} {xs : List D} {vs : List V} (sr : SR Z S H) (ro : RD Z H o x) (rx : RDs Z H xs vs) (h : bmW m o xs S Qa) (q : Kq Z H Qa Q) :
    ∃ r, MtR X (bmId m) r ∧ r x vs H Q := by
  unfold bmW at h
  split at h
  · cases ro
    split at h
    · rename_i ds e
      obtain ⟨us, hl, rs⟩ := lstAt sr e
      split at h
      · obtain ⟨v, rfl, r⟩ := rx.one
        exact ⟨_, mt_append, _, _, _, rfl, rfl, hl, by rw [← rs.length]; exact h.1, q.setL sr hl (rs.append (.cons r .nil)) .non h.2⟩
      · cases rx
        obtain ⟨d, e2, h⟩ := h
        obtain ⟨y, hy, ry⟩ := rs.get e2
        exact ⟨_, mt_pop, _, _, _, rfl, rfl, hl, by rw [← rs.length]; exact hy, q.setL sr hl rs.dropLast ry h⟩
      · obtain ⟨v, rfl, r⟩ := rx.one
        cases r
        obtain ⟨hi, j, d, ej, e2, h⟩ := h
        obtain ⟨y, hy, ry⟩ := rs.get e2
        obtain ⟨p1, p2, p3, p4⟩ := ixN_seq ej
        exact ⟨_, mt_popAt, _, _, _, _, _, rfl, rfl, hl, hi.1, hi.2, by rw [← rs.length]; exact p1, hy, q.setL sr hl (rs.eraseIdx j) ry h⟩
      · obtain ⟨v, rfl, r⟩ := rx.one
        cases r
        obtain ⟨es, e2, hz, h⟩ := h
        obtain ⟨ws, hl2, rs2⟩ := lstAt sr e2
        exact ⟨_, mt_extend, _, _, _, _, rfl, rfl, hl, hl2, by rw [← rs.length, ← rs2.length]; exact hz, q.setL sr hl (rs.append rs2) .non h⟩
      · obtain ⟨v, rfl, r⟩ := rx.one
        cases r with
        | tup t rs2 => exact ⟨_, mt_extendT, _, _, _, _, rfl, rfl, hl, by rw [← hK]; exact t.sq, by rw [← rs.length, ← rs2.length]; exact h.1, q.setL sr hl (rs.append rs2) .non h.2⟩
      · obtain ⟨v, rfl, r⟩ := rx.one
        obtain ⟨p, ps, j, z, p1, p2, d1, d2, ej, ez, hno, h⟩ := h
        have er := show rd S _ = some ds by unfold rd; rw [e]
        refine ⟨_, mt_indexD (by omega), _, _, p, ps, j, z, rfl, rfl, PD.dp hK sr (.ref er p2) .ref, p1.dp hK sr r, ?_, ?_, ej, ez, hno, q.pure sr .int h⟩
        · have := (PD.ref (a := _) er p2).lay
          simp only [SeqAt.shaped, this, Bool.true_and, decide_eq_true_eq]
          show PyData.depthAll ps + 1 ≤ 64
          omega
        · simp only [SeqAt.shaped, p1.lay, Bool.true_and, decide_eq_true_eq]
          omega
      · exact h.elim
    · exact h.elim
  · cases ro
    split at h
    · obtain ⟨v, rfl, r⟩ := rx.one
      cases r
      exact ⟨_, mt_count, _, _, rfl, rfl, q.pure sr .int h⟩
    · obtain ⟨v, rfl, r⟩ := rx.one
      cases r
      obtain ⟨h1, h2, h⟩ := h
      rename_i lx _ _ bx
      refine ⟨_, mt_split, _, _, rfl, rfl, h1, by rw [st_length]; exact h2, ?_⟩
      have := RDs.ofStrs (Z := Z) (H := H) ((Txt.split (st lx) (st bx)).map fun y => y.cps.toList)
      rw [show ((Txt.split (st lx) (st bx)).map fun y : Str => y.cps.toList).map st = Txt.split (st lx) (st bx) by rw [List.map_map, show (st ∘ fun y : Str => y.cps.toList) = id from funext fun y => st_of y, List.map_id], List.map_map] at this
      exact q.newL sr this h
    · obtain ⟨v, rfl, r⟩ := rx.one
      cases r
      obtain ⟨ls, e, hz, h⟩ := h
      rename_i lx _ _ _
      obtain ⟨us, sq, rs⟩ := rdAt (K := X.K) sr e
      rw [rs.strs] at sq
      refine ⟨_, mt_join, _, _, ls.map st, rfl, rfl, .inl sq, ?_, ?_⟩
      · rw [List.map_map, List.length_map, st_length, show (Str.length ∘ st) = List.length from funext fun y => st_length y]
        exact hz
      · have := RD.str (Z := Z) (H := H) (l := (Txt.join (st lx) (ls.map st)).cps.toList)
        rw [st_of] at this
        exact q.pure sr this h
    · obtain ⟨v, rfl, r⟩ := rx.one
      cases r
      exact ⟨_, mt_startswith, _, _, rfl, rfl, q.pure sr .bl h⟩
    · exact h.elim
  · exact h.elim
def bmT : Bm → String
  | .count => "str"
  | .split => "str"
  | .join => "str"
  | .startswith => "str"
  | _ => "list"
theorem bmTy_ok {m : Bm} {o : D} {x : V} (sr : SR Z S H) (ro : RD Z H o x) (h : bmTy m o S) : tyV X.K (bmT m) x H := by
  unfold bmTy at h
  split at h
  · cases ro; rfl
  · cases ro; rfl
  · cases ro; rfl
  · cases ro; rfl
  · cases ro; obtain ⟨ds, e⟩ := h; obtain ⟨us, hl, rs⟩ := lstAt sr e; exact Or.inl ⟨rfl, _, SqL.of hl⟩
  · cases ro; obtain ⟨ds, e⟩ := h; obtain ⟨us, hl, rs⟩ := lstAt sr e; exact Or.inl ⟨rfl, _, SqL.of hl⟩
  · cases ro; obtain ⟨ds, e⟩ := h; obtain ⟨us, hl, rs⟩ := lstAt sr e; exact Or.inl ⟨rfl, _, SqL.of hl⟩
  · cases ro; obtain ⟨ds, e⟩ := h; obtain ⟨us, hl, rs⟩ := lstAt sr e; exact Or.inl ⟨rfl, _, SqL.of hl⟩
  · exact h.elim
end
end Mini
end L2
/-! Mini, part F: expressions -/
namespace L2
namespace Mini
open PySem PySem.Spec PyProof.Rows
/-- a word's readings as a test, as arguments -/
def TTx (Z : Nm) (W : WX) (w : Env → Sto → (Bool → Sto → Prop) → QX → Prop) : TT := fun τ H Q => ∃ σ S Qa E, ER Z H σ τ ∧ SR Z S H ∧ w σ S Qa E ∧ (∀ r S' H', TK H H' → SR Z S' H' → Qa r S' → Q r H') ∧ Kx Z W τ H E
def TAx (Z : Nm) (W : WX) (w : Env → Sto → (List D → Sto → Prop) → QX → Prop) : TA := fun τ H Q => ∃ σ S Qa E, ER Z H σ τ ∧ SR Z S H ∧ w σ S Qa E ∧ (∀ ds vs S' H', TK H H' → SR Z S' H' → RDs Z H' ds vs → Qa ds S' → Q vs H') ∧ Kx Z W τ H E
def TOx (Z : Nm) (W : WX) (w : Env → Sto → (Option Int → Sto → Prop) → QX → Prop) : TO := fun τ H Q => ∃ σ S Qa E, ER Z H σ τ ∧ SR Z S H ∧ w σ S Qa E ∧ (∀ r S' H', TK H H' → SR Z S' H' → Qa r S' → Q r H') ∧ Kx Z W τ H E
def SEt (X : Cx) (Z : Nm) (W : WX) (e : Expr) (w : Env → Sto → (Bool → Sto → Prop) → QX → Prop) : Prop := PT X e (TTx Z W w)
def SAs (X : Cx) (Z : Nm) (W : WX) (es : List Expr) (w : Env → Sto → (List D → Sto → Prop) → QX → Prop) : Prop := PA X es (TAx Z W w)
def SO (X : Cx) (Z : Nm) (W : WX) (e : Option Expr) (w : Env → Sto → (Option Int → Sto → Prop) → QX → Prop) : Prop := PO X e (TOx Z W w)
/-- the word of a test -/
def toT (w : WE0) : Env → Sto → (Bool → Sto → Prop) → QX → Prop := fun σ S Q E => w σ S (fun x S1 => match tru S1 x with | some r => Q r S1 | none => False) E
theorem PT.imp {X : Cx} {e : Expr} {t t' : TT} (h : PT X e t) (i : ∀ τ H Q, t' τ H Q → t τ H Q) : PT X e t' := ⟨fun pins s σ H Q I w => h.run pins s σ H Q I (i _ _ _ w)⟩
theorem PA.imp {X : Cx} {e : List Expr} {t t' : TA} (h : PA X e t) (i : ∀ τ H Q, t' τ H Q → t τ H Q) : PA X e t' := ⟨fun pos pins s σ H Q I w => h.run pos pins s σ H Q I (i _ _ _ w)⟩
section
variable {X : Cx} {Z : Nm} {W : WX} {a₀ b₀ c₀ : Expr} {wa wb wc : WE0} {pos : Pos}
theorem tru_tv {K : PySem.W.Frag} {S : Sto} {H : Hp} {x : D} {v : V} {r : Bool} (hK : Z.K = K) (sr : SR Z S H) (rx : RD Z H x v) (h : tru S x = some r) : TruV K v H r := by
  cases x with
  | non => cases rx; cases h; rfl
  | bl b => cases rx; cases h; rfl
  | int i => cases rx; cases h; rfl
  | str l => cases h
  | tup ds =>
    cases rx with
    | tup t rs =>
      cases h
      refine .inr (.inl ⟨_, by rw [← hK]; exact t.sq, ?_⟩)
      cases rs <;> rfl
  | ref a =>
    cases rx
    simp only [tru] at h
    cases e : rd S a with
    | none => rw [e] at h; cases h
    | some ds =>
      rw [e] at h
      cases h
      obtain ⟨vs, sq, rs⟩ := rdAt (K := K) sr e
      refine .inl ⟨vs, sq, ?_⟩
      cases rs <;> rfl
  | fn f => cases h
theorem se_var {x : Str} {i : Nat} (hN : X.N[i]? = some x) (hv : Vis X.env.scope x) (hd : (x == ("__debug__" : Str)) = false) (hcd : (x == ("__classdict__" : Str)) = false) :
    SE X Z W (.Name x pos) (fun σ S Q _ => match σ.get i with | some d => Q d S | none => False) :=
  PE.imp (pe_var hN hv hd hcd) fun τ H Q ⟨σ, S, Qa, E, er, sr, w, q, qe⟩ => by
    dsimp only at w
    split at w
    · rename_i d e
      obtain ⟨v, h1, h2⟩ := er.2 i d e
      exact ⟨v, h1, q.pure sr h2 w⟩
    · exact w.elim
theorem se_con {e : Expr} {d : D} {v : V} (h : PE X e (tC v)) (r : ∀ H, RD Z H d v) : SE X Z W e (fun _ S Q _ => Q d S) :=
  PE.imp h fun τ H Q ⟨σ, S, Qa, E, er, sr, w, q, qe⟩ => q.pure sr (r H) w
/-- two operands, then an operation by values -/
theorem two_ok {R : V → V → Hp → Prop} {op : D → D → Sto → Prop} {τ : St} {H : Hp} {σ : Env} {S : Sto} {E : QX} (er : ER Z H σ τ) (sr : SR Z S H) (w : wa σ S (fun x S1 => wb σ S1 (fun y S2 => op x y S2) E) E) (qe : Kx Z W τ H E)
    (ok : ∀ {S2 : Sto} {H2 : Hp} {x y : D} {v u : V}, TK H H2 → SR Z S2 H2 → RD Z H2 x v → RD Z H2 y u → op x y S2 → R v u H2) : TEx Z W wa τ H fun x H1 => TEx Z W wb τ H1 fun y H2 => R x y H2 := by
  refine ⟨σ, S, _, E, er, sr, w, fun d v S1 H1 k1 sr1 rd1 w1 => ?_, qe⟩
  refine ⟨σ, S1, _, E, er.keep k1, sr1, w1, fun d2 v2 S2 H2 k2 sr2 rd2 w2 => ?_, qe.keep k1⟩
  exact ok (k1.trans k2) sr2 (rd1.keep k2) rd2 w2
theorem se_bin {op : Bop} (hK : Z.K = X.K) (ha : SE X Z W a₀ wa) (hb : SE X Z W b₀ wb) : SE X Z W (.BinOp a₀ (bopOf op) b₀ pos) (fun σ S Q E => wa σ S (fun x S1 => wb σ S1 (fun y S2 => binW op x y S2 Q) E) E) :=
  PE.imp (pe_op (rAny.ok X _) ha hb) fun τ H Q ⟨σ, S, Qa, E, er, sr, w, q, qe⟩ => two_ok er sr w qe fun k sr rx ry h => bin_ok hK sr rx ry h (q.keep k)
theorem se_cmp {op : Cop} (hK : Z.K = X.K) (hu : X.A.units + 190 < cLine) (ha : SE X Z W a₀ wa) (hb : SE X Z W b₀ wb) (hm : behindInMarks (copOf op) b₀ = false) : SE X Z W (.Compare a₀ [copOf op] [b₀] pos) (fun σ S Q E => wa σ S (fun x S1 => wb σ S1 (fun y S2 => cmpW op x y S2 Q) E) E) :=
  PE.imp (pe_cmpR (rAny.ok X _) ha hb hm) fun τ H Q ⟨σ, S, Qa, E, er, sr, w, q, qe⟩ => two_ok er sr w qe fun k sr rx ry h => cmp_ok hK hu sr rx ry h (q.keep k)
/-- every answer of a comparison is a truth value -/
theorem cmpW_bl {op : Cop} {x y : D} {S : Sto} {Q : QD} (h : cmpW op x y S Q) : cmpW op x y S (fun d S' => ∃ r, d = .bl r ∧ Q d S') := by
  have eqw : ∀ {n : Bool}, eqW x y n S Q → eqW x y n S (fun d S' => ∃ r, d = .bl r ∧ Q d S') := fun {n} h => by
    unfold eqW at h ⊢
    split at h
    · exact ⟨_, rfl, h⟩
    · exact ⟨_, rfl, h⟩
    · obtain ⟨r, e, h⟩ := h
      exact ⟨r, e, _, rfl, h⟩
  have inw : ∀ {n : Bool}, inW x y n S Q → inW x y n S (fun d S' => ∃ r, d = .bl r ∧ Q d S') := fun {n} h => by
    unfold inW at h ⊢
    split at h
    · exact ⟨_, rfl, h⟩
    · rename_i a hx
      split at h
      · rename_i kvs e
        split at h
        · exact ⟨_, rfl, h⟩
        · exact ⟨_, rfl, h⟩
        · exact h.elim
      · obtain ⟨r, e, h⟩ := h
        exact ⟨r, e, _, rfl, h⟩
      · obtain ⟨r, e, h⟩ := h
        exact ⟨r, e, _, rfl, h⟩
      · exact h.elim
    · obtain ⟨r, e, h⟩ := h
      exact ⟨r, e, _, rfl, h⟩
    · exact h.elim
  cases op with
  | eq => exact eqw h
  | ne => exact eqw h
  | in_ => exact inw h
  | notin => exact inw h
  | lt => simp only [cmpW] at h ⊢; split at h <;> first | exact ⟨_, rfl, h⟩ | exact h.elim
  | le => simp only [cmpW] at h ⊢; split at h <;> first | exact ⟨_, rfl, h⟩ | exact h.elim
  | gt => simp only [cmpW] at h ⊢; split at h <;> first | exact ⟨_, rfl, h⟩ | exact h.elim
  | ge => simp only [cmpW] at h ⊢; split at h <;> first | exact ⟨_, rfl, h⟩ | exact h.elim
  | is_ => simp only [cmpW] at h ⊢; split at h <;> first | exact ⟨_, rfl, h⟩ | exact h.elim
  | isnot => simp only [cmpW] at h ⊢; split at h <;> first | exact ⟨_, rfl, h⟩ | exact h.elim
theorem st_cmp {op : Cop} (hK : Z.K = X.K) (hu : X.A.units + 190 < cLine) (ha : SE X Z W a₀ wa) (hb : SE X Z W b₀ wb) (hm : behindInMarks (copOf op) b₀ = false) : SEt X Z W (.Compare a₀ [copOf op] [b₀] pos) (toT fun σ S Q E => wa σ S (fun x S1 => wb σ S1 (fun y S2 => cmpW op x y S2 Q) E) E) :=
  PT.imp (pt_cmpR (rAny.ok X _) ha hb hm) fun τ H Q ⟨σ, S, Qa, E, er, sr, w, q, qe⟩ => by
    refine two_ok er sr w qe fun k sr rx ry h => cmp_ok hK hu sr rx ry (cmpW_bl h) fun d v S' H' k' sr' rd' h' => ?_
    obtain ⟨r, e, h'⟩ := h'
    subst e
    cases rd'
    exact ⟨r, rfl, q r S' H' (k.trans k') sr' h'⟩
theorem se_neg (ha : SE X Z W a₀ wa) : SE X Z W (.UnaryOp .USub a₀ pos) (fun σ S Q E => wa σ S (fun x S1 => match x with | .int i => Q (.int (-i)) S1 | _ => False) E) :=
  PE.imp (pe_un un_neg ha) fun τ H Q ⟨σ, S, Qa, E, er, sr, w, q, qe⟩ => by
    refine ⟨σ, S, _, E, er, sr, w, fun d v S1 H1 k1 sr1 rd1 w1 => ?_, qe⟩
    dsimp only at w1
    split at w1
    · cases rd1; exact ⟨_, rfl, (q.keep k1).pure sr1 .int w1⟩
    · exact w1.elim
/-! ### and, or, not, if else -/
theorem se_and {rest : List Expr} (hK : Z.K = X.K) (ha : SE X Z W a₀ wa) (hb : SE X Z W (.BoolOp .And (b₀ :: rest) pos) wb) : SE X Z W (.BoolOp .And (a₀ :: b₀ :: rest) pos) (fun σ S Q E => wa σ S (fun x S1 => match tru S1 x with | some true => wb σ S1 Q E | some false => Q x S1 | none => False) E) :=
  PE.imp (pe_andT ha hb) fun τ H Q ⟨σ, S, Qa, E, er, sr, w, q, qe⟩ => by
    refine ⟨σ, S, _, E, er, sr, w, fun d v S1 H1 k1 sr1 rd1 w1 => ?_, qe⟩
    dsimp only at w1
    split at w1
    · rename_i e; exact ⟨_, tru_tv hK sr1 rd1 e, iteT ⟨σ, S1, Qa, E, er.keep k1, sr1, w1, q.keep k1, qe.keep k1⟩⟩
    · rename_i e; exact ⟨_, tru_tv hK sr1 rd1 e, iteF ((q.keep k1).pure sr1 rd1 w1)⟩
    · exact w1.elim
theorem se_or {rest : List Expr} (hK : Z.K = X.K) (ha : SE X Z W a₀ wa) (hb : SE X Z W (.BoolOp .Or (b₀ :: rest) pos) wb) : SE X Z W (.BoolOp .Or (a₀ :: b₀ :: rest) pos) (fun σ S Q E => wa σ S (fun x S1 => match tru S1 x with | some true => Q x S1 | some false => wb σ S1 Q E | none => False) E) :=
  PE.imp (pe_orT ha hb) fun τ H Q ⟨σ, S, Qa, E, er, sr, w, q, qe⟩ => by
    refine ⟨σ, S, _, E, er, sr, w, fun d v S1 H1 k1 sr1 rd1 w1 => ?_, qe⟩
    dsimp only at w1
    split at w1
    · rename_i e; exact ⟨_, tru_tv hK sr1 rd1 e, iteT ((q.keep k1).pure sr1 rd1 w1)⟩
    · rename_i e; exact ⟨_, tru_tv hK sr1 rd1 e, iteF ⟨σ, S1, Qa, E, er.keep k1, sr1, w1, q.keep k1, qe.keep k1⟩⟩
    · exact w1.elim
theorem se_one {op : BoolOp} (ha : SE X Z W a₀ wa) : SE X Z W (.BoolOp op [a₀] pos) wa := pe_one ha
theorem se_not (hK : Z.K = X.K) (ha : SE X Z W a₀ wa) : SE X Z W (.UnaryOp .Not a₀ pos) (fun σ S Q E => wa σ S (fun x S1 => match tru S1 x with | some r => Q (.bl (!r)) S1 | none => False) E) :=
  PE.imp (pe_notT ha) fun τ H Q ⟨σ, S, Qa, E, er, sr, w, q, qe⟩ => by
    refine ⟨σ, S, _, E, er, sr, w, fun d v S1 H1 k1 sr1 rd1 w1 => ?_, qe⟩
    dsimp only at w1
    split at w1
    · rename_i e; exact ⟨_, tru_tv hK sr1 rd1 e, (q.keep k1).pure sr1 .bl w1⟩
    · exact w1.elim
theorem st_plain (hK : Z.K = X.K) (ha : SE X Z W a₀ wa) (he : ∀ whole, isTrue a₀ X.env whole = (do let v ← whole; standAt a₀.pos; holding [v] (truthy v))) : SEt X Z W a₀ (toT wa) :=
  PT.imp (pt_truth ha he) fun τ H Q ⟨σ, S, Qa, E, er, sr, w, q, qe⟩ => by
    refine ⟨σ, S, _, E, er, sr, w, fun d v S1 H1 k1 sr1 rd1 w1 => ?_, qe⟩
    dsimp only at w1
    split at w1
    · rename_i e; exact ⟨_, tru_tv hK sr1 rd1 e, q _ _ _ k1 sr1 w1⟩
    · exact w1.elim
theorem st_not (ha : SEt X Z W a₀ (toT wa)) : SEt X Z W (.UnaryOp .Not a₀ pos) (toT fun σ S Q E => wa σ S (fun x S1 => match tru S1 x with | some r => Q (.bl (!r)) S1 | none => False) E) :=
  PT.imp (pt_not ha) fun τ H Q ⟨σ, S, Qa, E, er, sr, w, q, qe⟩ => ⟨σ, S, fun r S1 => Qa (!r) S1, E, er, sr, w, fun r S1 H1 k1 sr1 w1 => q _ _ _ k1 sr1 w1, qe⟩
/-- a test of and, or: whatever its whole is -/
def SWt (X : Cx) (Z : Nm) (W : WX) (e : Expr) (w : Env → Sto → (Bool → Sto → Prop) → QX → Prop) : Prop := PW X e (TTx Z W w)
theorem PW.imp {e : Expr} {t t' : TT} (h : PW X e t) (i : ∀ τ H Q, t' τ H Q → t τ H Q) : PW X e t' := ⟨fun wh pins s σ H Q I w => h.run wh pins s σ H Q I (i _ _ _ w)⟩
theorem sw_and1 (ha : SEt X Z W a₀ (toT wa)) : SWt X Z W (.BoolOp .And [a₀] pos) (toT wa) := pw_and1 ha
theorem sw_or1 (ha : SEt X Z W a₀ (toT wa)) : SWt X Z W (.BoolOp .Or [a₀] pos) (toT wa) := pw_or1 ha
theorem SWt.t {e : Expr} {w : Env → Sto → (Bool → Sto → Prop) → QX → Prop} (h : SWt X Z W e w) : SEt X Z W e w := h.pt
/-- what the word of and, or asks, as a test -/
theorem toT_of {S1 : Sto} {x : D} {r : Bool} {Qa : Bool → Sto → Prop} (e : tru S1 x = some r) (h : match tru S1 x with | some r => Qa r S1 | none => False) : Qa r S1 := by rw [e] at h; exact h
theorem sw_and {rest : List Expr} (ha : SEt X Z W a₀ (toT wa)) (hb : SWt X Z W (.BoolOp .And (b₀ :: rest) pos) (toT wb)) :
    SWt X Z W (.BoolOp .And (a₀ :: b₀ :: rest) pos) (toT fun σ S Q E => wa σ S (fun x S1 => match tru S1 x with | some true => wb σ S1 Q E | some false => Q x S1 | none => False) E) :=
  PW.imp (pw_and ha hb) fun τ H Q ⟨σ, S, Qa, E, er, sr, w, q, qe⟩ => by
    have ee : (fun (x : D) (S1 : Sto) => (match tru S1 x with | some true => wb σ S1 (fun x S1 => match tru S1 x with | some r => Qa r S1 | none => False) E | some false => (match tru S1 x with | some r => Qa r S1 | none => False) | none => False : Prop)) = fun x S1 => (match tru S1 x with | some r => (if r = true then toT wb σ S1 Qa E else Qa false S1) | none => False : Prop) := by
      funext x S1
      cases h : tru S1 x with
      | none => rfl
      | some r => cases r <;> simp [toT]
    have w' : wa σ S (fun x S1 => (match tru S1 x with | some r => (if r = true then toT wb σ S1 Qa E else Qa false S1) | none => False : Prop)) E := by rw [← ee]; exact w
    refine ⟨σ, S, fun r S1 => if r = true then toT wb σ S1 Qa E else Qa false S1, E, er, sr, w', fun r S1 H1 k1 sr1 w1 => ?_, qe⟩
    · cases r with
      | true => exact iteT ⟨σ, S1, Qa, E, er.keep k1, sr1, w1, fun r S2 H2 k2 => q r S2 H2 (k1.trans k2), qe.keep k1⟩
      | false => exact iteF (q _ _ _ k1 sr1 w1)
theorem sw_or {rest : List Expr} (ha : SEt X Z W a₀ (toT wa)) (hb : SWt X Z W (.BoolOp .Or (b₀ :: rest) pos) (toT wb)) :
    SWt X Z W (.BoolOp .Or (a₀ :: b₀ :: rest) pos) (toT fun σ S Q E => wa σ S (fun x S1 => match tru S1 x with | some true => Q x S1 | some false => wb σ S1 Q E | none => False) E) :=
  PW.imp (pw_or ha hb) fun τ H Q ⟨σ, S, Qa, E, er, sr, w, q, qe⟩ => by
    have ee : (fun (x : D) (S1 : Sto) => (match tru S1 x with | some true => (match tru S1 x with | some r => Qa r S1 | none => False) | some false => wb σ S1 (fun x S1 => match tru S1 x with | some r => Qa r S1 | none => False) E | none => False : Prop)) = fun x S1 => (match tru S1 x with | some r => (if r = true then Qa true S1 else toT wb σ S1 Qa E) | none => False : Prop) := by
      funext x S1
      cases h : tru S1 x with
      | none => rfl
      | some r => cases r <;> simp [toT]
    have w' : wa σ S (fun x S1 => (match tru S1 x with | some r => (if r = true then Qa true S1 else toT wb σ S1 Qa E) | none => False : Prop)) E := by rw [← ee]; exact w
    refine ⟨σ, S, fun r S1 => if r = true then Qa true S1 else toT wb σ S1 Qa E, E, er, sr, w', fun r S1 H1 k1 sr1 w1 => ?_, qe⟩
    · cases r with
      | true => exact iteT (q _ _ _ k1 sr1 w1)
      | false => exact iteF ⟨σ, S1, Qa, E, er.keep k1, sr1, w1, fun r S2 H2 k2 => q r S2 H2 (k1.trans k2), qe.keep k1⟩
theorem se_ite (hc : SEt X Z W c₀ (toT wc)) (ha : SE X Z W a₀ wa) (hb : SE X Z W b₀ wb) :
    SE X Z W (.IfExp c₀ a₀ b₀ pos) (fun σ S Q E => wc σ S (fun x S1 => match tru S1 x with | some true => wa σ S1 Q E | some false => wb σ S1 Q E | none => False) E) :=
  PE.imp (pe_ifExp hc ha hb) fun τ H Q ⟨σ, S, Qa, E, er, sr, w, q, qe⟩ => by
    have ee : (fun (x : D) (S1 : Sto) => (match tru S1 x with | some true => wa σ S1 Qa E | some false => wb σ S1 Qa E | none => False : Prop)) = fun x S1 => (match tru S1 x with | some r => (if r = true then wa σ S1 Qa E else wb σ S1 Qa E) | none => False : Prop) := by
      funext x S1
      cases h : tru S1 x with
      | none => rfl
      | some r => cases r <;> simp
    have w' : wc σ S (fun x S1 => (match tru S1 x with | some r => (if r = true then wa σ S1 Qa E else wb σ S1 Qa E) | none => False : Prop)) E := by rw [← ee]; exact w
    refine ⟨σ, S, fun r S1 => if r = true then wa σ S1 Qa E else wb σ S1 Qa E, E, er, sr, w', fun r S1 H1 k1 sr1 w1 => ?_, qe⟩
    · cases r with
      | true => exact iteT ⟨σ, S1, Qa, E, er.keep k1, sr1, w1, q.keep k1, qe.keep k1⟩
      | false => exact iteF ⟨σ, S1, Qa, E, er.keep k1, sr1, w1, q.keep k1, qe.keep k1⟩
/-! ### displays, subscripts, slices, fields -/
theorem sa_nil : SAs X Z W [] (fun _ S Q _ => Q [] S) := PA.imp pa_nil fun τ H Q ⟨σ, S, Qa, E, er, sr, w, q, qe⟩ => q [] [] S H (TK.refl H) sr .nil w
theorem sa_cons {es : List Expr} {ws : Env → Sto → (List D → Sto → Prop) → QX → Prop} (ha : SE X Z W a₀ wa) (hs : SAs X Z W es ws) (hst : starEach (a₀ :: es) X.env = (false, eval a₀ X.env) :: starEach es X.env) :
    SAs X Z W (a₀ :: es) (fun σ S Q E => wa σ S (fun x S1 => ws σ S1 (fun xs S2 => Q (x :: xs) S2) E) E) :=
  PA.imp (pa_cons ha hs hst) fun τ H Q ⟨σ, S, Qa, E, er, sr, w, q, qe⟩ => by
    refine ⟨σ, S, _, E, er, sr, w, fun d v S1 H1 k1 sr1 rd1 w1 => ?_, qe⟩
    exact ⟨σ, S1, _, E, er.keep k1, sr1, w1, fun ds vs S2 H2 k2 sr2 rd2 w2 => q _ _ _ _ (k1.trans k2) sr2 (.cons (rd1.keep k2) rd2) w2, qe.keep k1⟩
theorem se_tup {es : List Expr} {k : Nat} {ws : Env → Sto → (List D → Sto → Prop) → QX → Prop} (hs : SAs X Z W es ws) : SE X Z W (.Tuple es k pos) (fun σ S Q E => ws σ S (fun ds S1 => ds.length ≤ sizeLine ∧ Q (.tup ds) S1) E) :=
  PE.imp (pe_tup hs) fun τ H Q ⟨σ, S, Qa, E, er, sr, w, q, qe⟩ => ⟨σ, S, _, E, er, sr, w, fun ds vs S1 H1 k1 sr1 rd1 w1 => ⟨by rw [← rd1.length]; exact w1.1, (q.keep k1).newT sr1 rd1 w1.2⟩, qe⟩
theorem se_lst {es : List Expr} {ws : Env → Sto → (List D → Sto → Prop) → QX → Prop} (hs : SAs X Z W es ws) : SE X Z W (.List es pos) (fun σ S Q E => ws σ S (fun ds S1 => ds.length ≤ sizeLine ∧ newW (.lst ds) S1 Q) E) :=
  PE.imp (pe_lst hs) fun τ H Q ⟨σ, S, Qa, E, er, sr, w, q, qe⟩ => ⟨σ, S, _, E, er, sr, w, fun ds vs S1 H1 k1 sr1 rd1 w1 => ⟨by rw [← rd1.length]; exact w1.1, (q.keep k1).newL sr1 rd1 w1.2⟩, qe⟩
theorem se_ix (hK : Z.K = X.K) (hu : X.A.units + 190 < cLine) (ha : SE X Z W a₀ wa) (hb : SE X Z W b₀ wb) (hp : PlainIx b₀) : SE X Z W (.Subscript a₀ b₀ pos) (fun σ S Q E => wa σ S (fun x S1 => wb σ S1 (fun y S2 => ixW x y S2 Q) E) E) :=
  PE.imp (pe_ix (ixAny.ok X) ha hb hp) fun τ H Q ⟨σ, S, Qa, E, er, sr, w, q, qe⟩ => two_ok er sr w qe fun k sr rx ry h => ix_ok hK hu sr rx ry h (q.keep k)
theorem so_none : SO X Z W none (fun _ S Q _ => Q none S) := ⟨fun pins s σ H Q I ⟨_, S, Qa, E, er, sr, w, q, qe⟩ => (po_none (X := X)).run pins s σ H Q I (q none S H (TK.refl H) sr w)⟩
theorem so_some (ha : SE X Z W a₀ wa) : SO X Z W (some a₀) (fun σ S Q E => wa σ S (fun x S1 => match x with | .int i => Q (some i) S1 | _ => False) E) := ⟨fun pins s τ H Q I ⟨σ, S, Qa, E, er, sr, w, q, qe⟩ =>
  (po_some ha).run pins s τ H Q I (by
    refine ⟨σ, S, _, E, er, sr, w, fun d v S1 H1 k1 sr1 rd1 w1 => ?_, qe⟩
    dsimp only at w1
    split at w1
    · cases rd1; exact ⟨_, rfl, q _ _ _ k1 sr1 w1⟩
    · exact w1.elim)⟩
theorem se_slc {lo hi : Option Expr} {wl wh : Env → Sto → (Option Int → Sto → Prop) → QX → Prop} {p2 : Pos} (hK : Z.K = X.K) (ha : SE X Z W a₀ wa) (hl : SO X Z W lo wl) (hh : SO X Z W hi wh) :
    SE X Z W (.Subscript a₀ (.Slice lo hi none p2) pos) (fun σ S Q E => wa σ S (fun x S1 => wl σ S1 (fun l S2 => wh σ S2 (fun h S3 => slW x l h S3 Q) E) E) E) :=
  PE.imp (pe_slice (slAny.ok X) ha hl hh) fun τ H Q ⟨σ, S, Qa, E, er, sr, w, q, qe⟩ => by
    refine ⟨σ, S, _, E, er, sr, w, fun d v S1 H1 k1 sr1 rd1 w1 => ?_, qe⟩
    refine ⟨σ, S1, _, E, er.keep k1, sr1, w1, fun l S2 H2 k2 sr2 w2 => ?_, qe.keep k1⟩
    refine ⟨σ, S2, _, E, (er.keep k1).keep k2, sr2, w2, fun h S3 H3 k3 sr3 w3 => ?_, (qe.keep k1).keep k2⟩
    exact sl_ok hK sr3 ((rd1.keep k2).keep k3) w3 (((q.keep k1).keep k2).keep k3)
end
end Mini
end L2
/-! Mini, part G: calls, fields, comprehensions -/
namespace L2
namespace Mini
open PySem PySem.Spec PyProof.Rows
/-- a promise about plain data, over the abstract heap -/
def LS (Z : Nm) (sp : Spec) : Sp := fun vs H Q E => ∃ ds S Qa Ea, RDs Z H ds vs ∧ SR Z S H ∧ sp ds S Qa Ea ∧ Kq Z H Qa Q ∧
  ∀ x cls dd S' H', TK H H' → SR Z S' H' → XR Z H' x cls dd → Ea x S' → E cls dd H'
/-! ### room, frame by frame -/
/-- room for k frames more -/
structure Rm (k : Nat) (A : Around) : Prop where
  hd : A.handled = none
  dp : A.depth + k + 14 < recursionLimit
  un : A.units + 4 * k + 300 < cLine
theorem Rm.mono {j k : Nat} {A : Around} (r : Rm k A) (h : j ≤ k) : Rm j A := ⟨r.hd, by have := r.dp; omega, by have := r.un; omega⟩
theorem Rm.deeper {k : Nat} {A : Around} (r : Rm (k + 1) A) (env : PySem.Env) : Rm k (A.deeper env) :=
  ⟨r.hd, by have := r.dp; show A.depth + 1 + k + 14 < _; omega, by have := r.un; show A.units + 3 + 4 * k + 300 < _; omega⟩
theorem Rm.make {k : Nat} {A : Around} (r : Rm (k + 1) A) (C : Addr) (us : List Value) (kw : List (Str × Value)) : Rm k (A.under (.builtin "type.__call__" ⟨.ref C :: us, kw⟩)) :=
  ⟨r.hd, by have := r.dp; rw [make_depth]; omega, by have := r.un; rw [make_units]; omega⟩
theorem Rm.room {k : Nat} {A : Around} (r : Rm k A) : Room 2 A := ⟨r.hd, by have := r.dp; omega, by have := r.un; omega⟩
theorem Rm.depth {k : Nat} {A : Around} (r : Rm k A) : A.depth < recursionLimit := by have := r.dp; omega
structure FnR (P : Program) (w : World) (K : PySem.W.Frag) (mg : Str → Option Value) (base : Heap) (CX : CXT) (k : Nat) (f : Addr) (fd : FuncData) (ps : List Str) (sp : Sp) : Prop where
  len : ∀ vs H Q E, sp vs H Q E → vs.length = ps.length
  run : ∀ (A : Around) (outer : List PySem.Env) (s : Shared) (H : Hp) (args : Args) (us : List Value) (vs : List V) (Q : VK) (E : XK), Rm k A → Env0 P w K mg base A outer s H → BindsTo s fd args (ps.zip us) → Vals vs us → sp vs H Q E →
    codeAny (model P w) A (.call (.ref f) args) (CR CX outer P w H s Q E) s
theorem FnR.imp {P : Program} {w : World} {K : PySem.W.Frag} {mg : Str → Option Value} {base : Heap} {CX : CXT} {k : Nat} {f : Addr} {fd : FuncData} {ps : List Str} {sp sp' : Sp} (F : FnR P w K mg base CX k f fd ps sp)
    (h : ∀ vs H Q E, sp' vs H Q E → sp vs H Q E) : FnR P w K mg base CX k f fd ps sp' :=
  ⟨fun vs H Q E q => F.len vs H Q E (h _ _ _ _ q), fun A outer s H args us vs Q E hr he hb hv hs => F.run A outer s H args us vs Q E hr he hb hv (h _ _ _ _ hs)⟩
/-- at the top -/
theorem FnR.top {P : Program} {w : World} {K : PySem.W.Frag} {mg : Str → Option Value} {base : Heap} {CX : CXT} {j k : Nat} {f : Addr} {fd : FuncData} {ps : List Str} {sp : Sp} (F : FnR P w K mg base CX j f fd ps sp) (h : j + 9 ≤ 3 * k) (h2 : 25 ≤ k) : FnOk P w K mg base CX k f fd ps sp :=
  ⟨F.len, fun A outer s H args us vs Q E hr => F.run A outer s H args us vs Q E ⟨hr.hd, by have := hr.dp; omega, by have := hr.un; omega⟩⟩
theorem fnr_of {CX : CXT} {P : Program} {w : World} {K : PySem.W.Frag} {mg : Str → Option Value} {base : Heap} {k : Nat} {f : Addr} {name qual : Str} {params : Arguments} {body : List Stmt} {scope : Scope} {dV kV doc pm cdv ct oc : Value} {an od : Option Addr}
    {osl : Array (Option Value)} {N ps : List Str} {sp : Sp} (lk : K.lookup f = some ⟨oc, od, .func (PySem.W.fnOf name qual params body scope dV kV doc pm an cdv ct), osl⟩) (hcd : PySem.W.codeIn K cdv qual = true) (S : FnScope N ps scope)
    (len : ∀ vs H Q E, sp vs H Q E → vs.length = ps.length)
    (hbody : ∀ (A : Around) (outer : List PySem.Env) (s : Shared) (H : Hp) (vs : List V) (Q : VK) (E : XK), Rm k (A.deeper (envOfC qual scope s.heap.objs.size f cdv)) → sp vs H Q E →
      ∃ t, PSs (cxOf CX P w K mg base N qual scope f cdv A outer s H E) body t ∧ t { nx := fun _ H' => Q .non H', rt := Q } (start N vs) H) :
    FnR P w K mg base CX (k + 1) f (PySem.W.fnOf name qual params body scope dV kV doc pm an cdv ct) ps sp := by
  refine ⟨len, fun A outer s H args us vs Q E hr e0 hb r hsp => ?_⟩
  have hl := len _ _ _ _ hsp
  have KX : K.In s.heap := e0.mod.kin.keeps fun b o e => (e0.bs b o e).1
  have lim : s.heap.NoLimit := e0.mod.nolimit.keeps fun b o e => (e0.bs b o e).1
  have hkind : ∀ y ∈ ps.zip us, scope.names.lookup y.1 = some .local ∨ (scope.names.lookup y.1 = some .cell ∧ ((cellsFrom (s.heap.objs.size + 1) scope.names []).lookup y.1).isSome = true) := fun ⟨n, v⟩ hy => by
    rcases S.par n (List.of_mem_zip hy).1 with q | q
    · exact .inl q
    · exact .inr ⟨q, PySem.W.cellsFrom_some _ _ _ (.inl q)⟩
  refine codeAny_call_function hr.depth (KX _ _ lk) rfl S.co S.gen rfl (PySem.W.codeRec_of KX hcd) (hb _ _ _ _ ?_)
  refine wpAny_newFunctionEnv_cells S.kind hkind fun env he s1 x => ?_
  subst he
  refine ⟨lim.keeps x.toInCall.keep, codeAny_func ?_⟩
  obtain ⟨t, ht, hq⟩ := hbody A outer s H vs Q E (hr.deeper _) hsp
  have I : Inv (cxOf CX P w K mg base N qual scope f cdv A outer s H E) [] (start N vs) H s1 := inv_start S hr.hd e0 hl r x
  refine wpAny_mono (ht.run [] s1 (start N vs) H _ I hq) (fun fl s' hs => ?_) fun e s' hs => hs
  have fin : ∀ {σ' : St} {H' : Hp} {v : V} {u : Value}, Inv (cxOf CX P w K mg base N qual scope f cdv A outer s H E) [] σ' H' s' → RelV v u → Q v H' → CE outer P w H s Q u s' :=
    fun {σ' H' v u} J rv q => ⟨v, H', J.os, J.bare, J.base, J.hok, rv, q⟩
  cases fl with
  | ret u =>
    obtain ⟨v, σ', H', J, rv, q⟩ := hs
    exact fin J rv q
  | next =>
    obtain ⟨σ', H', J, q⟩ := hs
    exact fin (v := V.non) (u := Value.none) J rfl q
  | brk =>
    obtain ⟨_, _, _, q⟩ := hs
    exact False.elim q
  | cont =>
    obtain ⟨_, _, _, q⟩ := hs
    exact False.elim q
theorem Fun.okR {P : Program} {w : World} {K : PySem.W.Frag} {mg : Str → Option Value} {base : Heap} {x qual : Str} {st : Stmt} {f : Addr} {fd : FuncData} {N ps : List Str} {k : Nat} {sp : Sp} (F : Fun K x qual st f fd) (S : FnScope N ps (defScope st)) (len : ∀ vs H Q E, sp vs H Q E → vs.length = ps.length)
    (hbody : ∀ (cdv : Value) (A : Around) (outer : List PySem.Env) (s : Shared) (H : Hp) (vs : List V) (Q : VK) (E : XK), Rm k (A.deeper (envOfC qual (defScope st) s.heap.objs.size f cdv)) → sp vs H Q E →
      ∃ t, PSs (cxOf (L2.CX P w) P w K mg base N qual (defScope st) f cdv A outer s H E) (defBody st) t ∧ t { nx := fun _ H' => Q .non H', rt := Q } (start N vs) H) : FnR P w K mg base (L2.CX P w) (k + 1) f fd ps sp := by
  obtain ⟨oc, od, kV, doc, pm, an, cdv, ct, osl, rfl, lk, hcd⟩ := F.ex
  exact fnr_of lk hcd S len fun A outer s H vs Q E hr hsp => hbody cdv A outer s H vs Q E hr hsp
section
variable {X : Cx} {CX : CXT} {k : Nat} {f C : Addr} {fd : FuncData} {ps : List Str} {sp : Sp}
theorem run_fnR {E : St → XK} {pins : List (Addr × Obj)} {σ : St} {H : Hp} {s : Shared} {Q : VK} {us : List Value} {vs : List V} (F : FnR X.prog X.w X.K X.mg X.base CX k f fd ps sp) (hr : Rm k X.A) (hb : Binds X.K fd ps []) (hx : PassesAt CX X σ (E σ))
    (I : Inv X pins σ H s) (r : Vals vs us) (h : sp vs H Q (E σ)) : wpAny (model X.prog X.w) X.A (PySem.call (.ref f) us) (EP X pins σ Q) X.xe s := by
  have hl : us.length = ps.length := by rw [← r.length]; exact F.len _ _ _ _ h
  have b := hb s us I.kIn (by rw [List.append_nil]; exact hl)
  rw [List.append_nil] at b
  refine wpAny_call (codeAny_mono (F.run X.A X.stack s H ⟨us, []⟩ us vs Q (E σ) hr I.env0 b r h) fun r s' hq => ?_)
  cases r with
  | error e => exact hx pins H s e s' I hq
  | ok fl =>
    cases fl with
    | ret u => exact I.after hq
    | next => exact False.elim hq
    | brk => exact False.elim hq
    | cont => exact False.elim hq
theorem run_makeR {E : XK} {pins : List (Addr × Obj)} {σ : St} {H : Hp} {s : Shared} {Q : VK} {us : List Value} {vs : List V} (M : Mk X.K C f) (F : FnR X.prog X.w X.K X.mg X.base CX k f fd ps sp) (hr : Rm (k + 1) X.A) (hb : Binds X.K fd ps [])
    (hx : Passes CX X E) (I : Inv X pins σ H s) (r : Vals vs us)
    (h : ∀ x dx, H x = none → H dx = none → dx ≠ x → sp (.ref x :: vs) (upd (upd H dx (.own x)) x (.ins C dx [])) (fun v H2 => v = .non ∧ Q (.ref x) H2) E) :
    wpAny (model X.prog X.w) X.A (PySem.call (.ref C) us) (EP X pins σ Q) X.xe s := by
  have hq := h (s.heap.objs.size + 1) s.heap.objs.size (I.hok.fresh (Nat.le_succ _)) (I.hok.fresh (Nat.le_refl _)) (Nat.ne_of_lt (Nat.lt_succ_self _))
  have I2 := Inv.made (C := C) I
  have r2 : Vals (V.ref (s.heap.objs.size + 1) :: vs) (Value.ref (s.heap.objs.size + 1) :: us) := .cons rfl r
  have hl : (Value.ref (s.heap.objs.size + 1) :: us).length = ps.length := by
    have e := r2.length
    rw [F.len _ _ _ _ hq] at e
    exact e.symm
  have b := hb { s with heap := (s.heap.push PySem.W.emptyDict).push (PySem.W.instObj C s.heap.objs.size) } (Value.ref (s.heap.objs.size + 1) :: us) I2.kIn (by rw [List.append_nil]; exact hl)
  rw [List.append_nil] at b
  refine wpAny_call (make_map (f := f) I.kIn M.makes M.init (beq_iff_eq.mp M.fn) (codeAny_mono (F.run _ X.stack _ _ ⟨Value.ref (s.heap.objs.size + 1) :: us, []⟩ (Value.ref (s.heap.objs.size + 1) :: us) _ _ E (hr.make C us [])
    (I2.env0.make C us []) b r2 hq) fun r s' hq' => ?_))
  cases r with
  | error e => exact hx pins σ _ _ e s' I2 hq'
  | ok fl =>
    cases fl with
    | ret u =>
      obtain ⟨v, H', I3, rv, ev, q3⟩ := I2.after hq'
      subst ev
      exact ⟨rv, ⟨V.ref (s.heap.objs.size + 1), H', I3, rfl, q3⟩⟩
    | next => exact False.elim hq'
    | brk => exact False.elim hq'
    | cont => exact False.elim hq'
end
/-- what is known of the defs and classes, with room for k calls -/
structure Fx (P : Program) (w : World) (K : PySem.W.Frag) (mg : Str → Option Value) (base : Heap) (A : Around) (Z : Nm) (G : Gam) (k : Nat) : Prop where
  zk : Z.K = K
  room : Rm k A
  fn : ∀ i ds S Q E, G.fn i ds S Q E → ∃ fd ps, FnR P w K mg base (L2.CX P w) k (Z.fa i) fd ps (LS Z (G.fn i)) ∧ Binds K fd ps [] ∧ PySem.W.keepIn K (.ref (Z.fa i)) = true
  cls : ∀ c, c < Z.nc → Cls K (Z.cla c)
  na : ∀ c f, c < Z.nc → f < Z.nf → NoAttr K (Z.cla c) (Z.fld f)
  mth : ∀ c m i, G.mt c m = some i → Meth K (Z.cla c) (Z.mn m) (Z.fa i)
  mnf : ∀ c m i, G.mt c m = some i → ∀ f, f < Z.nf → Z.fld f ≠ Z.mn m
  ini : ∀ c ds S Q E, G.ini c ds S Q E → c < Z.nc ∧ ∃ fI fd ps j, Mk K (Z.cla c) fI ∧ FnR P w K mg base (L2.CX P w) j fI fd ps (LS Z (G.ini c)) ∧ Binds K fd ps [] ∧ j + 1 ≤ k
abbrev FX (X : Cx) (Z : Nm) (G : Gam) (k : Nat) : Prop := Fx X.prog X.w X.K X.mg X.base X.A Z G k
theorem Fx.hu {P : Program} {w : World} {K : PySem.W.Frag} {mg : Str → Option Value} {base : Heap} {A : Around} {Z : Nm} {G : Gam} {k : Nat} (F : Fx P w K mg base A Z G k) : A.units + 190 < cLine := by
  have := F.room.un; omega
section
variable {X : Cx} {Z : Nm} {G : Gam} {k : Nat} {W : WX} {a₀ b₀ c₀ e₀ : Expr} {es₀ : List Expr} {wa wb wc : WE0} {ws : Env → Sto → (List D → Sto → Prop) → QX → Prop} {pos apos p : Pos}
/-- the callee runs, by its promise over plain data -/
theorem run_ls (F : FX X Z G k) (tk : Takes X W) {pins : List (Addr × Obj)} {τ : St} {H : Hp} {s : Shared} {Q : VK} {us : List Value} {vs : List V} {ds : List D} {S : Sto} {Qa : QD} {E : QX} {i : Nat} (I : Inv X pins τ H s) (r : Vals vs us) (rd : RDs Z H ds vs) (sr : SR Z S H)
    (h : G.fn i ds S Qa E) (q : Kq Z H Qa Q) (qe : Kx Z W τ H E) : PySem.W.keepIn X.K (.ref (Z.fa i)) = true ∧ wpAny (model X.prog X.w) X.A (PySem.call (.ref (Z.fa i)) us) (EP X pins τ Q) X.xe s := by
  obtain ⟨fd, ps, ok, hb, kp⟩ := F.fn _ _ _ _ _ h
  exact ⟨kp, run_fnR (E := WE W) ok F.room hb (passAt tk τ) I r ⟨ds, S, Qa, E, rd, sr, h, q, qe⟩⟩
/-- f(..) of a global name -/
theorem se_call {x : Str} {i : Nat} (F : FX X Z G k) (tk : Takes X W) (hg : Gl X x) (hm : X.mg x = some (.ref (Z.fa i))) (kp : PySem.W.keepIn X.K (.ref (Z.fa i)) = true) (hdb : (x == ("__debug__" : Str)) = false) (ha : SAs X Z W (e₀ :: es₀) ws)
    (he : starEach (e₀ :: es₀) X.env = (false, eval e₀ X.env) :: starEach es₀ X.env) (hpl : (backTo pos (starEach es₀ X.env)).any (·.1) = false) :
    SE X Z W (.Call (.Name x p) (e₀ :: es₀) [] pos) (fun σ S Q E => ws σ S (fun ds S1 => G.fn i ds S1 Q E) E) := by
  refine ⟨fun pins s τ H Q I ⟨σ, S, Qa, E, er, sr, w, q, qe⟩ => ?_⟩
  refine wpAny_Call_Name_kw (ld_glob I hg hm ?_ hdb)
  refine PySem.W.callWith_K (h₀ := X.base) I.ok.mod.kin kp (thn (ha.run pos pins s τ H _ I ⟨σ, S, _, E, er, sr, w, fun ds vs S1 H1 k1 sr1 rd1 w1 => (⟨k1, ds, S1, sr1, rd1, w1⟩ : TK H H1 ∧ ∃ ds S1, SR Z S1 H1 ∧ RDs Z H1 ds vs ∧ G.fn i ds S1 Qa E), qe⟩) fun us s1 ⟨vs, H1, I1, r1, k1, ds, S1, sr1, rd1, w1⟩ => ⟨I1.kIn, ?_⟩) he hpl
  exact (run_ls F tk I1 r1 rd1 sr1 w1 (q.keep k1) (qe.keep k1)).2
theorem se_call0 {x : Str} {i : Nat} (F : FX X Z G k) (tk : Takes X W) (hg : Gl X x) (hm : X.mg x = some (.ref (Z.fa i))) (kp : PySem.W.keepIn X.K (.ref (Z.fa i)) = true) (hdb : (x == ("__debug__" : Str)) = false) :
    SE X Z W (.Call (.Name x p) [] [] pos) (fun σ S Q E => G.fn i [] S Q E) := by
  refine ⟨fun pins s τ H Q I ⟨σ, S, Qa, E, er, sr, w, q, qe⟩ => ?_⟩
  refine wpAny_Call_Name_kw (ld_glob I hg hm ?_ hdb)
  exact PySem.W.callWith_K0 I.kIn kp (run_ls F tk I .nil .nil sr w q qe).2
/-- a call of a name of the def that holds a def -/
theorem se_callv {x : Str} {j : Nat} (F : FX X Z G k) (tk : Takes X W) (hN : X.N[j]? = some x) (hv : Vis X.env.scope x) (hd : (x == ("__debug__" : Str)) = false) (hcd : (x == ("__classdict__" : Str)) = false) (kp : ∀ i, i < G.nfn → PySem.W.keepIn X.K (.ref (Z.fa i)) = true) (ha : SAs X Z W (e₀ :: es₀) ws)
    (he : starEach (e₀ :: es₀) X.env = (false, eval e₀ X.env) :: starEach es₀ X.env) (hpl : (backTo pos (starEach es₀ X.env)).any (·.1) = false) :
    SE X Z W (.Call (.Name x p) (e₀ :: es₀) [] pos) (fun σ S Q E => match σ.get j with | some (.fn f) => f < G.nfn ∧ ws σ S (fun ds S1 => G.fn f ds S1 Q E) E | _ => False) := by
  refine ⟨fun pins s τ H Q I ⟨σ, S, Qa, E, er, sr, w, q, qe⟩ => ?_⟩
  dsimp only at w
  split at w
  · rename_i f e
    obtain ⟨v, h1, h2⟩ := er.2 j _ e
    cases h2
    refine wpAny_Call_Name_kw (thn ((pe_var (pos := p) hN hv hd hcd).run pins s τ H (fun v H1 => v = .ref (Z.fa f) ∧ H1 = H) I ⟨_, h1, rfl, rfl⟩) fun u s1 ⟨v, H1, I1, r1, q1⟩ => ?_)
    obtain ⟨rfl, rfl⟩ := q1
    cases r1
    refine PySem.W.callWith_K (h₀ := X.base) I.ok.mod.kin (kp f w.1) (thn (ha.run pos pins s1 τ _ _ I1 ⟨σ, S, _, E, er, sr, w.2, fun ds vs S1 H2 k1 sr1 rd1 w1 => (⟨k1, ds, S1, sr1, rd1, w1⟩ : TK _ H2 ∧ ∃ ds S1, SR Z S1 H2 ∧ RDs Z H2 ds vs ∧ G.fn f ds S1 Qa E), qe⟩) fun us s2 ⟨vs, H2, I2, r2, k1, ds, S1, sr1, rd1, w1⟩ => ⟨I2.kIn, ?_⟩) he hpl
    exact (run_ls F tk I2 r2 rd1 sr1 w1 (q.keep k1) (qe.keep k1)).2
  · exact w.elim
/-- a built-in function, a built-in class -/
def biTy : Bi → Bool
  | .int | .tuple | .list | .str => true
  | _ => false
theorem se_bi {x : Str} {b : Bi} (F : FX X Z G k) (hc : X.calm = true) (hg : Gl X x) (hm : X.mg x = none) (hv : bootBuiltins x = some (biF b)) (ha : SAs X Z W (e₀ :: es₀) ws) (hn : x ≠ "__name__") (hdb : (x == ("__debug__" : Str)) = false)
    (hF : (∃ id, biF b = .builtin id) ∨ ∃ T, biF b = .type T)
    (he : starEach (e₀ :: es₀) X.env = (false, eval e₀ X.env) :: starEach es₀ X.env) (hpl : (backTo pos (starEach es₀ X.env)).any (·.1) = false) :
    SE X Z W (.Call (.Name x p) (e₀ :: es₀) [] pos) (fun σ S Q E => ws σ S (fun ds S1 => biW b ds S1 Q) E) := by
  have go : ∀ {τ : St} {H : Hp} {Q : VK}, TEx Z W (fun σ S Q E => ws σ S (fun ds S1 => biW b ds S1 Q) E) τ H Q → tCB (cAny X (biF b)) (TAx Z W ws) τ H Q := fun {τ H Q} ⟨σ, S, Qa, E, er, sr, w, q, qe⟩ =>
    ⟨σ, S, _, E, er, sr, w, fun ds vs S1 H1 k1 sr1 rd1 w1 => bi_ok F.zk hc sr1 rd1 w1 (q.keep k1), qe⟩
  rcases hF with ⟨id, e⟩ | ⟨T, e⟩
  · exact PE.imp (pe_callB (id := id) (r := cAny X (biF b)) (by rw [← e]; exact cAny.ok X _) hg hm (by rw [← e]; exact hv) ha hn hdb he hpl) fun τ H Q h => go h
  · exact PE.imp (pe_callTy (T := T) (r := cAny X (biF b)) (by rw [← e]; exact cAny.ok X _) hg hm (by rw [← e]; exact hv) ha hn hdb he hpl) fun τ H Q h => go h
/-! ### fields, methods, new instances -/
theorem insAt {S : Sto} {H : Hp} {a : Addr} {c : Nat} {fs : List (Nat × D)} (sr : SR Z S H) (e : S a = some (.ins c fs)) : c < Z.nc ∧ ∃ dx gs, H a = some (.ins (Z.cla c) dx gs) ∧ RF Z H fs gs := sr a _ e
theorem se_att {f : Nat} {x : Str} (F : FX X Z G k) (hf : f < Z.nf) (hx : x = Z.fld f) (ha : SE X Z W a₀ wa) (hb : attributeBase a₀ x X.env (eval a₀ X.env) = eval a₀ X.env) :
    SE X Z W (.Attribute a₀ x pos) (fun σ S Q E => wa σ S (fun x S1 => match x with | .ref p => (match S1 p with | some (.ins _ fs) => (match fget fs f with | some d => Q d S1 | none => False) | _ => False) | _ => False) E) := by
  subst hx
  refine PE.imp (pe_fld ha hb) fun τ H Q ⟨σ, S, Qa, E, er, sr, w, q, qe⟩ => ?_
  refine ⟨σ, S, _, E, er, sr, w, fun d v S1 H1 k1 sr1 rd1 w1 => ?_, qe⟩
  dsimp only at w1
  split at w1
  · cases rd1
    split at w1
    · rename_i e
      split at w1
      · rename_i d e2
        obtain ⟨n, dx, gs, h1, rf⟩ := insAt sr1 e
        obtain ⟨v, h2, h3⟩ := rf.get f hf e2
        exact ⟨_, _, dx, gs, v, rfl, h1, F.cls _ n, F.na _ _ n hf, h2, (q.keep k1).pure sr1 h3 w1⟩
      · exact w1.elim
    · exact w1.elim
  · exact w1.elim
/-- o.m(..), a def of the class -/
theorem se_mth {m : Nat} {x : Str} {pl : Sem Bool} (F : FX X Z G k) (tk : Takes X W) (hx : x = Z.mn m) (ho : SE X Z W a₀ wa) (ha : SAs X Z W (e₀ :: es₀) ws)
    (hst : starEach (e₀ :: es₀) X.env = (false, eval e₀ X.env) :: starEach es₀ X.env) (hpl : (backTo pos (starEach es₀ X.env)).any (·.1) = false)
    (ht : eval (.Call (.Attribute a₀ x apos) (e₀ :: es₀) [] pos) X.env = (do
      let ov ← eval a₀ X.env
      standAt apos.atName
      let (f, first) ← holding [ov] (getMethod ov x pl)
      callWith pos f first (backTo pos (starEach (e₀ :: es₀) X.env)) (backToKw pos (keywordEach [] X.env)))) :
    SE X Z W (.Call (.Attribute a₀ x apos) (e₀ :: es₀) [] pos) (fun σ S Q E => wa σ S (fun x S1 => match x with | .ref p => (match S1 p with | some (.ins c fs) => (match G.mt c m with | some f => ws σ S1 (fun ds S2 => G.fn f (x :: ds) S2 Q E) E | none => False) | _ => False) | _ => False) E) := by
  subst hx
  refine ⟨fun pins s τ H Q I ⟨σ, S, Qa, E, er, sr, w, q, qe⟩ => ?_⟩
  refine PySem.W.methodCall_KW (pl := pl) (thn (ho.run pins s τ H (fun v H1 => TK H H1 ∧ ∃ d S1, SR Z S1 H1 ∧ RD Z H1 d v ∧ (match d with | .ref p => (match S1 p with | some (.ins c fs) => (match G.mt c m with | some f => ws σ S1 (fun ds S2 => G.fn f (d :: ds) S2 Qa E) E | none => False) | _ => False) | _ => False)) I
    ⟨σ, S, _, E, er, sr, w, fun d v S1 H1 k1 sr1 rd1 w1 => ⟨k1, d, S1, sr1, rd1, w1⟩, qe⟩) fun u s1 ⟨v, H1, I1, rv, k1, d, S1, sr1, rd1, w1⟩ => ?_) ht
  split at w1
  · rename_i a
    cases rd1
    split at w1
    · rename_i c fs e
      split at w1
      · rename_i i em
        obtain ⟨n, dx, gs, h1, rf⟩ := insAt sr1 e
        cases rv
        have M := F.mth _ _ _ em
        refine getmeth_ok I1 h1 (F.cls _ n) M (rf.none _ (F.mnf _ _ _ em)) ?_
        refine PySem.W.callWith_K (first := [.ref a]) (h₀ := X.base) I.ok.mod.kin M.kp (thn (ha.run pos pins s1 τ H1 _ I1 ⟨σ, S1, _, E, er.keep k1, sr1, w1, fun ds vs S2 H2 k2 sr2 rd2 w2 => (⟨k2, ds, S2, sr2, rd2, w2⟩ : TK H1 H2 ∧ ∃ ds S2, SR Z S2 H2 ∧ RDs Z H2 ds vs ∧ G.fn i (.ref a :: ds) S2 Qa E), qe.keep k1⟩) fun us s2 ⟨vs, H2, I2, r2, k2, ds, S2, sr2, rd2, w2⟩ => ⟨I2.kIn, ?_⟩) hst hpl
        exact (run_ls F tk (us := .ref a :: us) (vs := .ref a :: vs) (ds := .ref a :: ds) I2 (.cons rfl r2) (.cons .ref rd2) sr2 w2 (q.keep (k1.trans k2)) (qe.keep (k1.trans k2))).2
      · exact w1.elim
    · exact w1.elim
  · exact w1.elim
theorem se_mth0 {m : Nat} {x : Str} {pl : Sem Bool} (F : FX X Z G k) (tk : Takes X W) (hx : x = Z.mn m) (ho : SE X Z W a₀ wa)
    (ht : eval (.Call (.Attribute a₀ x apos) [] [] pos) X.env = (do
      let ov ← eval a₀ X.env
      standAt apos.atName
      let (f, first) ← holding [ov] (getMethod ov x pl)
      callWith pos f first (backTo pos (starEach [] X.env)) (backToKw pos (keywordEach [] X.env)))) :
    SE X Z W (.Call (.Attribute a₀ x apos) [] [] pos) (fun σ S Q E => wa σ S (fun x S1 => match x with | .ref p => (match S1 p with | some (.ins c fs) => (match G.mt c m with | some f => G.fn f [x] S1 Q E | none => False) | _ => False) | _ => False) E) := by
  subst hx
  refine ⟨fun pins s τ H Q I ⟨σ, S, Qa, E, er, sr, w, q, qe⟩ => ?_⟩
  refine PySem.W.methodCall_KW (pl := pl) (thn (ho.run pins s τ H (fun v H1 => TK H H1 ∧ ∃ d S1, SR Z S1 H1 ∧ RD Z H1 d v ∧ (match d with | .ref p => (match S1 p with | some (.ins c fs) => (match G.mt c m with | some f => G.fn f [d] S1 Qa E | none => False) | _ => False) | _ => False)) I
    ⟨σ, S, _, E, er, sr, w, fun d v S1 H1 k1 sr1 rd1 w1 => ⟨k1, d, S1, sr1, rd1, w1⟩, qe⟩) fun u s1 ⟨v, H1, I1, rv, k1, d, S1, sr1, rd1, w1⟩ => ?_) ht
  split at w1
  · rename_i a
    cases rd1
    split at w1
    · rename_i c fs e
      split at w1
      · rename_i i em
        obtain ⟨n, dx, gs, h1, rf⟩ := insAt sr1 e
        cases rv
        have M := F.mth _ _ _ em
        refine getmeth_ok I1 h1 (F.cls _ n) M (rf.none _ (F.mnf _ _ _ em)) ?_
        exact PySem.W.callWith_K0 (first := [.ref a]) I1.kIn M.kp (run_ls F tk (us := [.ref a]) (vs := [.ref a]) (ds := [.ref a]) I1 (.cons rfl .nil) (.cons .ref .nil) sr1 w1 (q.keep k1) (qe.keep k1)).2
      · exact w1.elim
    · exact w1.elim
  · exact w1.elim
end
end Mini
end L2
/-! Mini, part H: chains, isinstance, built-in methods, new instances, what loops go over -/
namespace L2
namespace Mini
open PySem PySem.Spec PyProof.Rows
section
variable {X : Cx} {Z : Nm} {G : Gam} {k : Nat} {W : WX} {a₀ b₀ c₀ e₀ : Expr} {es₀ : List Expr} {wa wb wc : WE0} {ws : Env → Sto → (List D → Sto → Prop) → QX → Prop} {pos apos p : Pos}
/-- the word of a chain of two comparisons -/
def chnW (o1 o2 : Cop) (wa wb wc : WE0) : WE0 := fun σ S Q E => wa σ S (fun x S1 => wb σ S1 (fun y S2 => cmpW o1 x y S2 (fun r S3 => match r with | .bl true => wc σ S3 (fun z S4 => cmpW o2 y z S4 Q) E | .bl false => Q (.bl false) S3 | _ => False)) E) E
theorem chn_core {o1 o2 : Cop} (F : FX X Z G k) {τ : St} {H : Hp} {Q : VK} {σ : Env} {S : Sto} {Qa : QD} {E : QX} (er : ER Z H σ τ) (sr : SR Z S H) (w : chnW o1 o2 wa wb wc σ S Qa E) (qe : Kx Z W τ H E)
    (q : ∀ r v S' H', TK H H' → SR Z S' H' → RD Z H' (.bl r) v → Qa (.bl r) S' → Q v H') : tChain (rAny X (compareOp (copOf o1))) (rAny X (compareOp (copOf o2))) (TEx Z W wa) (TEx Z W wb) (TEx Z W wc) τ H Q := by
  refine two_ok er sr w qe fun {S2 H2 x y v u} k2 sr2 rx ry h => ?_
  refine cmp_ok F.zk F.hu sr2 rx ry (cmpW_bl h) fun d z S3 H3 k3 sr3 rd3 h3 => ?_
  obtain ⟨r, e, h3⟩ := h3
  subst e
  cases rd3
  refine ⟨r, rfl, ?_⟩
  cases r with
  | false => exact iteF (q _ _ _ _ (k2.trans k3) sr3 .bl h3)
  | true =>
    refine iteT ⟨σ, S3, _, E, (er.keep k2).keep k3, sr3, h3, fun d4 v4 S4 H4 k4 sr4 rd4 w4 => ?_, (qe.keep k2).keep k3⟩
    refine cmp_ok F.zk F.hu sr4 ((ry.keep k3).keep k4) rd4 (cmpW_bl w4) fun d5 v5 S5 H5 k5 sr5 rd5 h5 => ?_
    obtain ⟨r5, e5, h5⟩ := h5
    subst e5
    exact q _ _ _ _ (((k2.trans k3).trans k4).trans k5) sr5 rd5 h5
theorem se_chn {o1 o2 : Cop} (F : FX X Z G k) (ha : SE X Z W a₀ wa) (hb : SE X Z W b₀ wb) (hc : SE X Z W c₀ wc) (hm : lastMarks [copOf o1, copOf o2] [b₀, c₀] = false) : SE X Z W (.Compare a₀ [copOf o1, copOf o2] [b₀, c₀] pos) (chnW o1 o2 wa wb wc) :=
  PE.imp (pe_chain (rAny.ok X _) (rAny.ok X _) ha hb hc hm) fun τ H Q ⟨σ, S, Qa, E, er, sr, w, q, qe⟩ => chn_core F er sr w qe fun r v S' H' k sr' rd' h => q _ _ _ _ k sr' rd' h
theorem st_chn {o1 o2 : Cop} (F : FX X Z G k) (ha : SE X Z W a₀ wa) (hb : SE X Z W b₀ wb) (hc : SE X Z W c₀ wc) (hm : lastMarks [copOf o1, copOf o2] [b₀, c₀] = false) : SEt X Z W (.Compare a₀ [copOf o1, copOf o2] [b₀, c₀] pos) (toT (chnW o1 o2 wa wb wc)) :=
  PT.imp (pt_chain (rAny.ok X _) (rAny.ok X _) ha hb hc hm) fun τ H Q ⟨σ, S, Qa, E, er, sr, w, q, qe⟩ => chn_core F er sr w qe fun r v S' H' k sr' rd' h => by
    cases rd'
    exact ⟨r, rfl, q _ _ _ k sr' h⟩
/-! ### isinstance -/
def tyName : Ty → String
  | .int => "int" | .bool => "bool" | .str => "str" | .tuple => "tuple" | .list => "list" | .exc _ => ""
/-- one type for all that isinstance asks -/
theorem isi_tys {K : PySem.W.Frag} {S : Sto} {H : Hp} {x : D} {v : V} {t0 : Ty} {r0 : Bool} (hK : Z.K = K) (sr : SR Z S H) (rx : RD Z H x v) (h0 : isiW x t0 S = some r0) :
    ∃ ty, TyX K H v ty ∧ ∀ t r, isiW x t S = some r → PySem.W.kitOne K ty (.type (tyName t)) = some r := by
  have tup : ∀ {ds : List D} {v : V}, RD Z H (.tup ds) v → TyX K H v (.type "tuple") := fun r => by
    cases r with
    | tup t rs =>
      rcases t with t | ⟨o, its, n, e, c, _⟩
      · exact .base (.tup t)
      · exact .kTuple (by rw [← hK]; exact e) c
  cases x with
  | non => cases rx; refine ⟨_, .base .non, fun t r h => kit_ty ?_⟩; cases t <;> simp only [isiW] at h <;> first | (cases h; decide +kernel) | cases h
  | bl b => cases rx; refine ⟨_, .base (.bl _), fun t r h => kit_ty ?_⟩; cases t <;> simp only [isiW] at h <;> first | (cases h; decide +kernel) | cases h
  | int i => cases rx; refine ⟨_, .base (.int _), fun t r h => kit_ty ?_⟩; cases t <;> simp only [isiW] at h <;> first | (cases h; decide +kernel) | cases h
  | str l => cases rx; refine ⟨_, .base (.str _), fun t r h => kit_ty ?_⟩; cases t <;> simp only [isiW] at h <;> first | (cases h; decide +kernel) | cases h
  | tup ds => refine ⟨_, tup rx, fun t r h => kit_ty ?_⟩; cases t <;> simp only [isiW] at h <;> first | (cases h; decide +kernel) | cases h
  | fn f => cases t0 <;> simp only [isiW] at h0 <;> cases h0
  | ref a =>
    cases rx
    cases e : S a with
    | none => cases t0 <;> simp only [isiW, e] at h0 <;> cases h0
    | some c =>
      cases c with
      | lst ds =>
        obtain ⟨vs, h1, _⟩ := lstAt sr e
        refine ⟨_, .base (.lst h1), fun t r h => kit_ty ?_⟩; cases t <;> simp only [isiW, e] at h <;> first | (cases h; decide +kernel) | cases h
      | fls ds =>
        obtain ⟨o, vs, h1, _⟩ := sr _ _ e
        refine ⟨_, .base (.frz h1), fun t r h => kit_ty ?_⟩; cases t <;> simp only [isiW, e] at h <;> first | (cases h; decide +kernel) | cases h
      | dct ds =>
        obtain ⟨vs, h1, _⟩ := sr _ _ e
        refine ⟨_, .base (.dK h1), fun t r h => kit_ty ?_⟩; cases t <;> simp only [isiW, e] at h <;> first | (cases h; decide +kernel) | cases h
      | ins c fs => cases t0 <;> simp only [isiW, e] at h0 <;> cases h0
theorem isi_ty {K : PySem.W.Frag} {S : Sto} {H : Hp} {x : D} {v : V} {t : Ty} {r : Bool} (hK : Z.K = K) (sr : SR Z S H) (rx : RD Z H x v) (h : isiW x t S = some r) : ∃ ty, TyX K H v ty ∧ PySem.W.kitOne K ty (.type (tyName t)) = some r :=
  let ⟨ty, h1, h2⟩ := isi_tys hK sr rx h; ⟨ty, h1, h2 t r h⟩
/-- two classes: one type -/
theorem isi_ty2 {K : PySem.W.Frag} {S : Sto} {H : Hp} {x : D} {v : V} {t u : Ty} {r q : Bool} (hK : Z.K = K) (sr : SR Z S H) (rx : RD Z H x v) (h : isiW x t S = some r) (h2 : isiW x u S = some q) :
    ∃ ty, TyX K H v ty ∧ PySem.W.kitOne K ty (.type (tyName t)) = some r ∧ PySem.W.kitOne K ty (.type (tyName u)) = some q :=
  let ⟨ty, h3, h4⟩ := isi_tys hK sr rx h; ⟨ty, h3, h4 t r h, h4 u q h2⟩
theorem se_isi {xT : Str} {t : Ty} {pT : Pos} (F : FX X Z G k) (hg : Gl X "isinstance") (hm : X.mg "isinstance" = none) (hgT : Gl X xT) (hmT : X.mg xT = none) (hvT : bootBuiltins xT = some (.type (tyName t))) (hn : xT ≠ "__name__") (hdb : (xT == ("__debug__" : Str)) = false)
    (ha : SE X Z W a₀ wa) (he : starEach [a₀, .Name xT pT] X.env = (false, eval a₀ X.env) :: starEach [.Name xT pT] X.env) (hv : bootBuiltins "isinstance" = some (.builtin "isinstance")) :
    SE X Z W (.Call (.Name "isinstance" p) [a₀, .Name xT pT] [] pos) (fun σ S Q E => wa σ S (fun x S1 => match isiW x t S1 with | some r => Q (.bl r) S1 | none => False) E) := by
  have hT : PE X (.Name xT pT) (tC (.ty (tyName t))) := pe_bltn hgT hmT hvT rfl hn hdb
  refine PE.imp (pe_callB call_isi hg hm hv (pa_cons ha (pa_cons hT pa_nil) he) (by decide) (by decide) he) fun τ H Q ⟨σ, S, Qa, E, er, sr, w, q, qe⟩ => ?_
  refine ⟨σ, S, _, E, er, sr, w, fun d v S1 H1 k1 sr1 rd1 w1 => ?_, qe⟩
  dsimp only at w1
  split at w1
  · rename_i r e
    obtain ⟨ty, t1, t2⟩ := isi_ty (K := X.K) F.zk sr1 rd1 e
    exact ⟨_, _, _, _, _, rfl, .ty _, t1, t2, (q.keep k1).pure sr1 .bl w1⟩
  · exact w1.elim
/-! ### methods of built-in classes -/
def mtAny (X : Cx) (id : String) : V → List V → Hp → VK → Prop := fun x xs H Q => ∃ r, MtR X id r ∧ r x xs H Q
theorem mtAny.ok (X : Cx) (id : String) : MtR X id (mtAny X id) := fun pins s σ H x xs v us Q I rx rs ⟨r, h, q⟩ => h pins s σ H x xs v us Q I rx rs q
theorem se_bm {m : Bm} {x : Str} (F : FX X Z G k) (hc : X.calm = true) (pa : PlainAttrs (bmT m)) (slot : Slot (bmT m) x (bmId m)) (hty : typeOf (.builtin (bmId m)) = pure (.type "method_descriptor")) (ho : SE X Z W a₀ wa) (ha : SAs X Z W (e₀ :: es₀) ws)
    (hbase : attributeBase a₀ x X.env (eval a₀ X.env) = eval a₀ X.env)
    (hfew : ((backTo pos (starEach (e₀ :: es₀) X.env)).all (fun x => !x.1) && (backToKw pos (keywordEach [] X.env)).all (fun x => x.1.isSome)
      && decide ((e₀ :: es₀).length + ([] : List Keyword).length + (if ([] : List Keyword).isEmpty then 0 else 1) < 30)) = true)
    (hline : (apos.endLine == pos.line) = true) (hs : starEach (e₀ :: es₀) X.env = (false, eval e₀ X.env) :: starEach es₀ X.env) (hplain : (backTo pos (starEach es₀ X.env)).any (·.1) = false) :
    SE X Z W (.Call (.Attribute a₀ x apos) (e₀ :: es₀) [] pos) (fun σ S Q E => wa σ S (fun x S1 => bmTy m x S1 ∧ ws σ S1 (fun ds S2 => bmW m x ds S2 Q) E) E) := by
  refine PE.imp (pe_bm pa slot hty (mtAny.ok X _) ho ha hbase hfew hline hs hplain) fun τ H Q ⟨σ, S, Qa, E, er, sr, w, q, qe⟩ => ?_
  refine ⟨σ, S, _, E, er, sr, w, fun d v S1 H1 k1 sr1 rd1 w1 => ⟨bmTy_ok sr1 rd1 w1.1, ?_⟩, qe⟩
  exact ⟨σ, S1, _, E, er.keep k1, sr1, w1.2, fun ds vs S2 H2 k2 sr2 rd2 w2 => bm_ok F.zk F.hu hc sr2 (rd1.keep k2) rd2 w2 (q.keep (k1.trans k2)), qe.keep k1⟩
theorem se_bm0 {m : Bm} {x : Str} (F : FX X Z G k) (hc : X.calm = true) (pa : PlainAttrs (bmT m)) (slot : Slot (bmT m) x (bmId m)) (hty : typeOf (.builtin (bmId m)) = pure (.type "method_descriptor")) (ho : SE X Z W a₀ wa)
    (hbase : attributeBase a₀ x X.env (eval a₀ X.env) = eval a₀ X.env) (hline : (apos.endLine == pos.line) = true) :
    SE X Z W (.Call (.Attribute a₀ x apos) [] [] pos) (fun σ S Q E => wa σ S (fun x S1 => bmTy m x S1 ∧ bmW m x [] S1 Q) E) := by
  refine PE.imp (pe_bm0 pa slot hty (mtAny.ok X _) ho hbase hline) fun τ H Q ⟨σ, S, Qa, E, er, sr, w, q, qe⟩ => ?_
  exact ⟨σ, S, _, E, er, sr, w, fun d v S1 H1 k1 sr1 rd1 w1 => ⟨bmTy_ok sr1 rd1 w1.1, bm_ok F.zk F.hu hc sr1 rd1 .nil w1.2 (q.keep k1)⟩, qe⟩
/-! ### new instances -/
theorem new_core (F : FX X Z G k) (tk : Takes X W) (ind : ∀ c d τ τ' H, W c d τ H → W c d τ' H) {c : Nat} {pins : List (Addr × Obj)} {τ : St} {H : Hp} {s : Shared} {Q : VK} {us : List Value} {vs : List V} {ds : List D} {S : Sto} {Qa : QD} {E : QX} (I : Inv X pins τ H s) (r : Vals vs us) (rd : RDs Z H ds vs) (sr : SR Z S H)
    (h : ∀ p, S p = none → G.ini c (.ref p :: ds) (S.upd p (.ins c [])) (fun r S2 => r = .non ∧ Qa (.ref p) S2) E) (q : Kq Z H Qa Q) (qe : Kx Z W τ H E) : wpAny (model X.prog X.w) X.A (PySem.call (.ref (Z.cla c)) us) (EP X pins τ Q) X.xe s := by
  obtain ⟨nc, fI, fd, ps, j, M, ok, hb, hj⟩ := F.ini _ _ _ _ _ (h _ (sr.free (I.hok.fresh (Nat.le_refl _))))
  refine run_makeR (E := fun cls d H' => W cls d τ H') M ok (F.room.mono hj) hb (fun pins σ H s e s' I c => passes_call tk (fun c d σ H w => ind _ _ _ _ _ w) pins σ H s e s' I c) I r fun x dx nx nd ne => ?_
  have k1 : TK H (upd H dx (.own x)) := TK.new nd
  have n2 : (upd H dx (.own x)) x = none := by rw [upd_ne (Ne.symm ne)]; exact nx
  have k2 : TK (upd H dx (.own x)) (upd (upd H dx (.own x)) x (.ins (Z.cla c) dx [])) := TK.new n2
  have k := k1.trans k2
  have sr2 : SR Z (S.upd x (.ins c [])) (upd (upd H dx (.own x)) x (.ins (Z.cla c) dx [])) := (sr.new nd).put (c := .ins c []) k2 ⟨nc, dx, [], upd_same, .nil⟩
  refine ⟨_, _, _, E, .cons .ref (rd.keep k), sr2, h x (sr.free nx), fun d v S' H' k' sr' rd' ⟨e, w⟩ => ?_, fun x cls dd S' H' k' => qe x cls dd S' H' (k.trans k')⟩
  subst e
  cases rd'
  exact ⟨rfl, q _ _ _ _ (k.trans k') sr' .ref w⟩
theorem se_new {x : Str} {c : Nat} (F : FX X Z G k) (tk : Takes X W) (ind : ∀ c d τ τ' H, W c d τ H → W c d τ' H) (hg : Gl X x) (hm : X.mg x = some (.ref (Z.cla c))) (kp : PySem.W.keepIn X.K (.ref (Z.cla c)) = true) (hdb : (x == ("__debug__" : Str)) = false) (ha : SAs X Z W (e₀ :: es₀) ws)
    (he : starEach (e₀ :: es₀) X.env = (false, eval e₀ X.env) :: starEach es₀ X.env) (hpl : (backTo pos (starEach es₀ X.env)).any (·.1) = false) :
    SE X Z W (.Call (.Name x p) (e₀ :: es₀) [] pos) (fun σ S Q E => ws σ S (fun ds S1 => ∀ p, S1 p = none → G.ini c (.ref p :: ds) (S1.upd p (.ins c [])) (fun r S2 => r = .non ∧ Q (.ref p) S2) E) E) := by
  refine ⟨fun pins s τ H Q I ⟨σ, S, Qa, E, er, sr, w, q, qe⟩ => ?_⟩
  refine wpAny_Call_Name_kw (ld_glob I hg hm ?_ hdb)
  refine PySem.W.callWith_K (h₀ := X.base) I.ok.mod.kin kp (thn (ha.run pos pins s τ H _ I ⟨σ, S, _, E, er, sr, w, fun ds vs S1 H1 k1 sr1 rd1 w1 => (⟨k1, ds, S1, sr1, rd1, w1⟩ : TK H H1 ∧ ∃ ds S1, SR Z S1 H1 ∧ RDs Z H1 ds vs ∧ ∀ p, S1 p = none → G.ini c (.ref p :: ds) (S1.upd p (.ins c [])) (fun r S2 => r = .non ∧ Qa (.ref p) S2) E), qe⟩) fun us s1 ⟨vs, H1, I1, r1, k1, ds, S1, sr1, rd1, w1⟩ => ⟨I1.kIn, ?_⟩) he hpl
  exact new_core F tk ind I1 r1 rd1 sr1 w1 (q.keep k1) (qe.keep k1)
theorem se_new0 {x : Str} {c : Nat} (F : FX X Z G k) (tk : Takes X W) (ind : ∀ c d τ τ' H, W c d τ H → W c d τ' H) (hg : Gl X x) (hm : X.mg x = some (.ref (Z.cla c))) (kp : PySem.W.keepIn X.K (.ref (Z.cla c)) = true) (hdb : (x == ("__debug__" : Str)) = false) :
    SE X Z W (.Call (.Name x p) [] [] pos) (fun σ S Q E => ∀ p, S p = none → G.ini c [.ref p] (S.upd p (.ins c [])) (fun r S2 => r = .non ∧ Q (.ref p) S2) E) := by
  refine ⟨fun pins s τ H Q I ⟨σ, S, Qa, E, er, sr, w, q, qe⟩ => ?_⟩
  refine wpAny_Call_Name_kw (ld_glob I hg hm ?_ hdb)
  exact PySem.W.callWith_K0 I.kIn kp (new_core F tk ind I .nil .nil sr w q qe)
/-- a class without __init__ -/
theorem run_make0 {C : Addr} {pins : List (Addr × Obj)} {τ : St} {H : Hp} {s : Shared} {Q : VK} (hm : PySem.W.makesIn X.K C = true) (hi : PySem.W.findIn X.K (.ref C) "__init__" = some (some (.builtin "object.__init__"))) (I : Inv X pins τ H s)
    (h : ∀ x dx, H x = none → H dx = none → dx ≠ x → Q (.ref x) (upd (upd H dx (.own x)) x (.ins C dx []))) : wpAny (model X.prog X.w) X.A (PySem.call (.ref C) []) (EP X pins τ Q) X.xe s := by
  have hq := h (s.heap.objs.size + 1) s.heap.objs.size (I.hok.fresh (Nat.le_succ _)) (I.hok.fresh (Nat.le_refl _)) (Nat.ne_of_lt (Nat.lt_succ_self _))
  have I2 := Inv.made (C := C) I
  have Y := PySem.W.makes_of (M := model X.prog X.w) I.kIn hm
  refine wpAny_call (make_map0 I.kIn hm hi (fun self => PySem.W.Looks.of_pure (PySem.W.oi_bind self)) ?_)
  obtain ⟨hh, g, d, t, os⟩ := s
  have t1 : PySem.W.Looks (model X.prog X.w) ((hh.push PySem.W.emptyDict).push (PySem.W.instObj C hh.objs.size)) (typeOf (.ref (hh.objs.size + 1))) (.ref C) := by
    have e : ((hh.push PySem.W.emptyDict).push (PySem.W.instObj C hh.objs.size)).get? (hh.objs.size + 1) = some (PySem.W.instObj C hh.objs.size) := by
      have := Heap.get?_push_size (h := hh.push PySem.W.emptyDict) (o := PySem.W.instObj C hh.objs.size) (by rfl)
      rw [Heap.size_push] at this
      exact this
    exact (PySem.W.Looks.ld e).andThen .now
  have t2 : PySem.W.Looks (model X.prog X.w) ((hh.push PySem.W.emptyDict).push (PySem.W.instObj C hh.objs.size)) (isInstance (.ref (hh.objs.size + 1)) (.type "object")) true := t1.andThen (Y.top.keeps fun b o e => Heap.get?_push_of_some _ (Heap.get?_push_of_some _ e))
  refine codeAny_call_builtin PySem.W.oi_plain PySem.W.entry_oi (@PySem.W.check_slot (model X.prog X.w) _ _ _ "object.__init__" "object" "__init__" (.ref (hh.objs.size + 1)) [] [] _ PySem.W.oi_kind PySem.W.oi_split t2 (PySem.W.oi_args (.ref (hh.objs.size + 1))) ?_)
  rw [PySem.W.oi_run]
  exact wpAny_pure (And.intro rfl ⟨V.ref (hh.objs.size + 1), _, I2, rfl, hq⟩)
theorem se_newo {x : Str} {c : Nat} (hc : c < Z.nc) (h1 : PySem.W.makesIn X.K (Z.cla c) = true) (h2 : PySem.W.findIn X.K (.ref (Z.cla c)) "__init__" = some (some (.builtin "object.__init__"))) (hg : Gl X x) (hm : X.mg x = some (.ref (Z.cla c))) (kp : PySem.W.keepIn X.K (.ref (Z.cla c)) = true) (hdb : (x == ("__debug__" : Str)) = false) :
    SE X Z W (.Call (.Name x p) [] [] pos) (fun _ S Q _ => ∀ p, S p = none → Q (.ref p) (S.upd p (.ins c []))) := by
  refine ⟨fun pins s τ H Q I ⟨σ, S, Qa, E, er, sr, w, q, qe⟩ => ?_⟩
  refine wpAny_Call_Name_kw (ld_glob I hg hm ?_ hdb)
  refine PySem.W.callWith_K0 I.kIn kp (run_make0 h1 h2 I fun x dx nx nd ne => ?_)
  have k1 : TK H (upd H dx (.own x)) := TK.new nd
  have n2 : (upd H dx (.own x)) x = none := by rw [upd_ne (Ne.symm ne)]; exact nx
  have k2 : TK (upd H dx (.own x)) (upd (upd H dx (.own x)) x (.ins (Z.cla c) dx [])) := TK.new n2
  have sr2 : SR Z (S.upd x (.ins c [])) (upd (upd H dx (.own x)) x (.ins (Z.cla c) dx [])) := (sr.new nd).put (c := .ins c []) k2 ⟨hc, dx, [], upd_same, .nil⟩
  exact q _ _ _ _ (k1.trans k2) sr2 .ref (w x (sr.free nx))
end
end Mini
end L2
/-! Mini, part I: what loops go over, list comprehensions -/
namespace L2
namespace Mini
open PySem PySem.Spec PyProof.Rows
/-- the iterator J goes over the data ds while the store is alive; H0: the heap when it was made -/
structure Wlk (Z : Nm) (H0 : Hp) (J : It) (ds : List D) (live : Sto → Prop) : Prop where
  go : ∀ i S H, TK H0 H → SR Z S H → live S → i < ds.length → J.go i H
  stop : ∀ S H, TK H0 H → SR Z S H → live S → J.stop ds.length H
  yld : ∀ i S H x H' d, TK H0 H → SR Z S H → live S → ds[i]? = some d → J.yld i H x H' → TK H H' ∧ (∀ b o, H b = some o → H' b = some o) ∧ RD Z H' d x
def TIx (Z : Nm) (W : WX) (w : Env → Sto → (List D → (Sto → Prop) → Sto → Prop) → QX → Prop) : TI := fun τ H R => ∃ σ S Ra E, ER Z H σ τ ∧ SR Z S H ∧ w σ S Ra E ∧
  (∀ ds live S' H' J, TK H H' → SR Z S' H' → Wlk Z H' J ds live → Ra ds live S' → R J H') ∧ Kx Z W τ H E
def SI (X : Cx) (Z : Nm) (W : WX) (tg iter : Expr) (w : Env → Sto → (List D → (Sto → Prop) → Sto → Prop) → QX → Prop) : Prop := PI X tg iter (TIx Z W w)
theorem PI.imp {X : Cx} {tg iter : Expr} {t t' : TI} (h : PI X tg iter t) (i : ∀ τ H R, t' τ H R → t τ H R) : PI X tg iter t' := ⟨fun pins s σ H R I w => h.run pins s σ H R I (i _ _ _ w)⟩
section
variable {X : Cx} {Z : Nm} {G : Gam} {k : Nat} {W : WX} {a₀ b₀ c₀ e₀ tg : Expr} {es₀ : List Expr} {wa wb wc : WE0} {ws : Env → Sto → (List D → Sto → Prop) → QX → Prop} {pos apos p : Pos}
/-! ### by values: a list, a tuple, a text are gone over -/
theorem it_list {pins : List (Addr × Obj)} {τ : St} {H : Hp} {s : Shared} {a : Addr} {xs : List V} {R : It → Hp → Prop} (I : Inv X pins τ H s) (hq : SqL X.K H a xs) (q : R (Itl X.K a) H) : wpAny (model X.prog X.w) X.A (pyIter (.ref a)) (PIE X pins τ tg R) X.xe s := by
  obtain ⟨its, rv, pl, _⟩ := I.list hq
  refine wpAny_pyIter_list pl.isList ⟨s.heap.objs.size, [s.heap.objs.size], _, _, H, rfl, I.kept (t' := s.toks) fun b o e => ?_, turn_list a _, ⟨_, Heap.get?_push_size _ rfl, rfl, rfl⟩, fun b hb => ?_, q⟩
  · exact Heap.get?_push_of_some _ e
  · cases List.mem_singleton.mp hb
    exact I.fpOk (Nat.le_refl _) (I.hok.fresh (Nat.le_refl _))
theorem it_tuple {pins : List (Addr × Obj)} {τ : St} {H : Hp} {s : Shared} {a : Addr} {xs : List V} {R : It → Hp → Prop} (I : Inv X pins τ H s) (hq : SqT X.K H a xs) (q : R (Itt X.K a) H) : wpAny (model X.prog X.w) X.A (pyIter (.ref a)) (PIE X pins τ tg R) X.xe s := by
  obtain ⟨its, rv, pl, _⟩ := I.tuple hq
  refine wpAny_pyIter_tuple (show s.heap.IsTuple a its.toArray from pl) ⟨s.heap.objs.size, [s.heap.objs.size], _, _, H, rfl, I.kept (t' := s.toks) fun b o e => ?_, turn_tuple a _, ⟨_, Heap.get?_push_size _ rfl, rfl, rfl⟩, fun b hb => ?_, q⟩
  · exact Heap.get?_push_of_some _ e
  · cases List.mem_singleton.mp hb
    exact I.fpOk (Nat.le_refl _) (I.hok.fresh (Nat.le_refl _))
/-- a constant that is a value already there: to reach the rule of texts by values -/
theorem wlk_list {H : Hp} {S : Sto} {a : Addr} {ds : List D} (hK : Z.K = X.K) (e : rd S a = some ds) : Wlk Z H (Itl X.K a) ds (liveL a ds) where
  go := fun i S H k sr l hi => by
    obtain ⟨vs, sq, rs⟩ := rdAt (K := X.K) sr l
    exact ⟨vs, vs[i]'(by rw [← rs.length]; exact hi), sq, by simp⟩
  stop := fun S H k sr l => by
    obtain ⟨vs, sq, rs⟩ := rdAt (K := X.K) sr l
    exact ⟨vs, sq, by rw [rs.length]; exact Nat.le_refl _⟩
  yld := fun i S H x H' d k sr l hd y => by
    obtain ⟨e, y⟩ := y
    subst e
    obtain ⟨vs, sq, rs⟩ := rdAt (K := X.K) sr l
    obtain ⟨v, h1, h2⟩ := rs.get hd
    rw [y vs sq] at h1
    cases h1
    exact ⟨TK.refl _, fun _ _ h => h, h2⟩
theorem wlk_tuple {H : Hp} {a : Addr} {ds : List D} {vs : List V} (hK : Z.K = X.K) (t : TupAt Z.K H a vs) (rs : RDs Z H ds vs) : Wlk Z H (Itt X.K a) ds (fun _ => True) where
  go := fun i S H' k sr l hi => ⟨vs, vs[i]'(by rw [← rs.length]; exact hi), by rw [← hK]; exact (t.keep k).sq, by simp⟩
  stop := fun S H' k sr l => ⟨vs, by rw [← hK]; exact (t.keep k).sq, by rw [rs.length]; exact Nat.le_refl _⟩
  yld := fun i S H1 x H' d k sr l hd y => by
    obtain ⟨e, y⟩ := y
    subst e
    obtain ⟨v, h1, h2⟩ := rs.get hd
    rw [y vs (by rw [← hK]; exact (t.keep k).sq)] at h1
    cases h1
    exact ⟨TK.refl _, fun _ _ h => h, h2.keep k⟩
theorem wlk_str {H : Hp} {l : List Nat} : Wlk Z H (Its (st l)) (l.map fun c => D.str [c]) (fun _ => True) where
  go := fun i S H' k sr _ hi => by
    show i < (st l).cps.size
    simpa [st] using hi
  stop := fun S H' k sr _ => by
    show (st l).cps.size ≤ _
    simp [st]
  yld := fun i S H1 x H' d k sr _ hd y => by
    obtain ⟨e, c, hc, hx⟩ := y
    subst e hx
    rw [List.getElem?_map] at hd
    have hc' : l[i]? = some c := by simpa [st] using hc
    rw [hc'] at hd
    cases hd
    exact ⟨TK.refl _, fun _ _ h => h, .str (l := [c])⟩
theorem wlk_rng {H : Hp} {lo : Int} {n : Nat} : Wlk Z H (L2.Itr lo n) (rngD lo n) (fun _ => True) where
  go := fun i S H' k sr _ hi => by
    show i < n
    simpa [rngD] using hi
  stop := fun S H' k sr _ => by
    show n ≤ _
    simp [rngD]
  yld := fun i S H1 x H' d k sr _ hd y => by
    obtain ⟨e, hx⟩ := y
    subst e hx
    unfold rngD at hd
    rw [List.getElem?_map] at hd
    cases q : (List.range n)[i]? with
    | none => rw [q] at hd; cases hd
    | some j =>
      rw [q] at hd
      cases hd
      obtain ⟨h1, h2⟩ := List.getElem?_eq_some_iff.mp q
      rw [List.getElem_range] at h2
      subst h2
      exact ⟨TK.refl _, fun _ _ h => h, .int⟩
/-- texts by values, out of the rule for expressions -/
theorem it_str {pins : List (Addr × Obj)} {τ : St} {H : Hp} {s : Shared} {x : Str} {t : Tok} {R : It → Hp → Prop} (I : Inv X pins τ H s) (q : R (Its x) H) : wpAny (model X.prog X.w) X.A (pyIter (.str x t)) (PIE X pins τ tg R) X.xe s := by
  obtain ha | ha : x.cps.all (· < 128) = true ∨ x.cps.all (· < 128) = false := by cases x.cps.all (· < 128) <;> simp
  · refine wpAny_pyIter_ascii ha (pi_one (tk := s.toks) I _ (turn_str _ x t "str_ascii_iterator" (.inl rfl)) ?_ q)
    exact ⟨_, Heap.get?_push_size _ rfl, rfl, rfl⟩
  · refine wpAny_pyIter_wide ha (pi_one (tk := s.toks) I _ (turn_str _ x t "str_iterator" (.inr rfl)) ?_ q)
    exact ⟨_, Heap.get?_push_size _ rfl, rfl, rfl⟩
theorem si_sq (hK : Z.K = X.K) (ha : SE X Z W a₀ wa) : SI X Z W tg a₀ (fun σ S R E => wa σ S (fun x S1 => sqW x S1 (fun ds l => R ds l S1)) E) := by
  refine ⟨fun pins s τ H R I ⟨σ, S, Ra, E, er, sr, w, r, qe⟩ => ?_⟩
  refine thn (ha.run pins s τ H (fun v H1 => TK H H1 ∧ ∃ d S1, SR Z S1 H1 ∧ RD Z H1 d v ∧ sqW d S1 (fun ds l => Ra ds l S1)) I ⟨σ, S, _, E, er, sr, w, fun d v S1 H1 k1 sr1 rd1 w1 => ⟨k1, d, S1, sr1, rd1, w1⟩, qe⟩) fun u s1 ⟨v, H1, I1, rv, k1, d, S1, sr1, rd1, w1⟩ => ?_
  unfold sqW at w1
  split at w1
  · cases rd1 with
    | tup t rs =>
      cases rv
      exact it_tuple I1 (by rw [← hK]; exact t.sq) (r _ _ _ _ _ k1 sr1 (wlk_tuple hK t rs) w1)
  · cases rd1
    obtain ⟨t, rfl⟩ := rv
    exact it_str I1 (r _ _ _ _ _ k1 sr1 wlk_str w1.2)
  · rename_i a
    cases rd1
    cases rv
    split at w1
    · rename_i ds e
      have e' : rd S1 a = some ds := by unfold rd; rw [e]
      obtain ⟨vs, sq, rs⟩ := rdAt (K := X.K) sr1 e'
      exact it_list I1 sq (r _ _ _ _ _ k1 sr1 (wlk_list hK e') w1)
    · rename_i ds e
      have e' : rd S1 a = some ds := by unfold rd; rw [e]
      obtain ⟨vs, sq, rs⟩ := rdAt (K := X.K) sr1 e'
      exact it_list I1 sq (r _ _ _ _ _ k1 sr1 (wlk_list hK e') w1)
    · exact w1.elim
  · exact w1.elim
theorem si_rng (hg : Gl X "range") (hm : X.mg "range" = none) (hb : SE X Z W b₀ wb) (hs : starEach [b₀] X.env = [(false, eval b₀ X.env)]) : SI X Z W tg (.Call (.Name "range" p) [b₀] [] pos) (fun σ S R E => wb σ S (fun x S1 => match x with | .int j => -(2 ^ 62) ≤ j ∧ j < 2 ^ 62 ∧ R (rngD 0 j.toNat) (fun _ => True) S1 | _ => False) E) :=
  PI.imp (pi_range1 hg hm (pa_cons hb pa_nil hs) hs) fun τ H R ⟨σ, S, Ra, E, er, sr, w, r, qe⟩ => by
    refine ⟨σ, S, _, E, er, sr, w, fun d v S1 H1 k1 sr1 rd1 w1 => ?_, qe⟩
    dsimp only at w1
    split at w1
    · cases rd1
      exact ⟨_, rfl, w1.1, w1.2.1, r _ _ _ _ _ k1 sr1 wlk_rng w1.2.2⟩
    · exact w1.elim
theorem si_rng2 (hg : Gl X "range") (hm : X.mg "range" = none) (ha : SE X Z W a₀ wa) (hb : SE X Z W b₀ wb) (hs : starEach [a₀, b₀] X.env = [(false, eval a₀ X.env), (false, eval b₀ X.env)]) (hs2 : starEach [b₀] X.env = [(false, eval b₀ X.env)]) : SI X Z W tg (.Call (.Name "range" p) [a₀, b₀] [] pos)
    (fun σ S R E => wa σ S (fun x S1 => wb σ S1 (fun y S2 => match x, y with | .int i, .int j => -(2 ^ 62) ≤ i ∧ i < 2 ^ 62 ∧ -(2 ^ 62) ≤ j ∧ j < 2 ^ 62 ∧ R (rngD i (j - i).toNat) (fun _ => True) S2 | _, _ => False) E) E) :=
  PI.imp (pi_range2 hg hm (pa_cons ha (pa_cons hb pa_nil hs2) (by rw [hs, hs2])) hs hs2) fun τ H R ⟨σ, S, Ra, E, er, sr, w, r, qe⟩ => by
    refine two_ok (R := fun x y H2 => ∃ i j : Int, ([x, y] : List V) = [.int i, .int j] ∧ (-(2 ^ 62) ≤ i ∧ i < 2 ^ 62 ∧ -(2 ^ 62) ≤ j ∧ j < 2 ^ 62) ∧ R (L2.Itr i (j - i).toNat) H2) er sr w qe fun {S2 H2 x y v u} k sr' rx ry h => ?_
    split at h
    · cases rx; cases ry
      exact ⟨_, _, rfl, ⟨h.1, h.2.1, h.2.2.1, h.2.2.2.1⟩, r _ _ _ _ _ k sr' wlk_rng h.2.2.2.2⟩
    · exact h.elim
end
end Mini
end L2
/-! Mini, part J: statements -/
namespace L2
namespace Mini
open PySem PySem.Spec PyProof.Rows
abbrev WS0 := En → EX → Env → Sto → Prop
/-- the ends, over the abstract heap -/
structure KD (Z : Nm) (H : Hp) (K : En) (D : Ends) : Prop where
  nx : ∀ σ S τ H', TK H H' → ER Z H' σ τ → SR Z S H' → K.nx σ S → D.nx τ H'
  rt : Kq Z H K.rt D.rt
  bk : ∀ σ S τ H', TK H H' → ER Z H' σ τ → SR Z S H' → K.bk σ S → D.bk τ H'
  ct : ∀ σ S τ H', TK H H' → ER Z H' σ τ → SR Z S H' → K.ct σ S → D.ct τ H'
theorem KD.keep {Z : Nm} {H H' : Hp} {K : En} {D : Ends} (d : KD Z H K D) (k : TK H H') : KD Z H' K D :=
  ⟨fun σ S τ H2 k2 => d.nx σ S τ H2 (k.trans k2), d.rt.keep k, fun σ S τ H2 k2 => d.bk σ S τ H2 (k.trans k2), fun σ S τ H2 k2 => d.ct σ S τ H2 (k.trans k2)⟩
def KX (Z : Nm) (W : WX) (H : Hp) (Xf : EX) : Prop := ∀ x cls dd σ S τ H', TK H H' → ER Z H' σ τ → SR Z S H' → XR Z H' x cls dd → Xf x σ S → W cls dd τ H'
theorem KX.keep {Z : Nm} {W : WX} {H H' : Hp} {Xf : EX} (d : KX Z W H Xf) (k : TK H H') : KX Z W H' Xf := fun x c dd σ S τ H2 k2 => d x c dd σ S τ H2 (k.trans k2)
theorem KX.kx {Z : Nm} {W : WX} {H : Hp} {Xf : EX} {σ : Env} {τ : St} (d : KX Z W H Xf) (er : ER Z H σ τ) : Kx Z W τ H (fun x S1 => Xf x σ S1) := fun x c dd S' H' k sr xr h => d x c dd σ S' τ H' k (er.keep k) sr xr h
def TSx (Z : Nm) (W : WX) (w : WS0) : TS := fun D τ H => ∃ σ S K Xf, ER Z H σ τ ∧ SR Z S H ∧ w K Xf σ S ∧ KD Z H K D ∧ KX Z W H Xf
def SS (X : Cx) (Z : Nm) (W : WX) (st : Stmt) (w : WS0) : Prop := PS X st (TSx Z W w)
def SSs (X : Cx) (Z : Nm) (W : WX) (st : List Stmt) (w : WS0) : Prop := PSs X st (TSx Z W w)
theorem PS.imp {X : Cx} {st : Stmt} {t t' : TS} (h : PS X st t) (i : ∀ D τ H, t' D τ H → t D τ H) : PS X st t' := ⟨fun pins s σ H D I w => h.run pins s σ H D I (i _ _ _ w)⟩
theorem PSs.imp {X : Cx} {st : List Stmt} {t t' : TS} (h : PSs X st t) (i : ∀ D τ H, t' D τ H → t D τ H) : PSs X st t' := ⟨fun pins s σ H D I w => h.run pins s σ H D I (i _ _ _ w)⟩
/-! ### targets -/
def gIs : List Nat → TGs
  | [] => gNil
  | i :: is => gCons (gName i) (gIs is)
def gTg (K : PySem.W.Frag) : Tg → TG
  | .nm i => gName i
  | .tp is => gTup K is.length (gIs is)
section
variable {X : Cx} {Z : Nm} {G : Gam} {k : Nat} {W : WX} {a₀ b₀ c₀ e₀ tg : Expr} {es₀ : List Expr} {wa wb wc : WE0} {ws : Env → Sto → (List D → Sto → Prop) → QX → Prop} {pos apos p : Pos}
theorem gIs_ok {Q : St → Hp → Prop} {H : Hp} : ∀ {is : List Nat} {ds : List D} {vs : List V} {σ : Env} {τ : St}, RDs Z H ds vs → ds.length = is.length → ER Z H σ τ →
    (∀ τ', ER Z H ((is.zip ds).foldl (fun s p => s.set p.1 (some p.2)) σ) τ' → Q τ' H) → gIs is vs τ H Q
  | [], [], _, σ, τ, rs, _, er, q => by cases rs; exact ⟨rfl, q τ er⟩
  | i :: is, d :: ds, _, σ, τ, rs, hl, er, q => by
    cases rs with
    | cons r rs => exact ⟨_, _, rfl, gIs_ok rs (Nat.succ.inj hl) (er.set i r) q⟩
  | [], _ :: _, _, _, _, _, hl, _, _ => by cases hl
  | _ :: _, [], _, _, _, _, hl, _, _ => by cases hl
theorem gTg_ok {Q : St → Hp → Prop} {H : Hp} {t : Tg} {d : D} {v : V} {σ σ' : Env} {τ : St} (hK : Z.K = X.K) (h : tgW t d σ = some σ') (r : RD Z H d v) (er : ER Z H σ τ) (q : ∀ τ', ER Z H σ' τ' → Q τ' H) : gTg X.K t v τ H Q := by
  cases t with
  | nm i => cases h; exact q _ (er.set i r)
  | tp is =>
    unfold tgW at h
    dsimp only at h
    split at h
    · rename_i ds
      split at h
      · rename_i hl
        cases h
        cases r with
        | tup t rs => exact ⟨_, _, rfl, by rw [← hK]; exact t.sq, by rw [← rs.length]; exact hl, gIs_ok rs hl er q⟩
      · cases h
    · cases h
/-- (a, b, ..) = a list of that length -/
def gLst (K : PySem.W.Frag) (n : Nat) (t : TGs) : TG := fun v σ H Q => ∃ a xs, v = .ref a ∧ SqL K H a xs ∧ xs.length = n ∧ t xs σ H Q
theorem pg_lst {es : List Expr} {k : Nat} {t : TGs} {n : Nat} (hc : X.calm = true) (h : PGs X es t) (hn : (assignEach es X.env).length = n) (hst : (assignEach es X.env).findIdx? (·.1) = none) : PG X (.Tuple es k pos) (gLst X.K n t) := by
  refine ⟨fun pins s σ H v u Q I r hw => ?_⟩
  obtain ⟨a, xs, e1, hq, hl, hw⟩ := hw
  subst e1
  cases r
  obtain ⟨its, rv, ht, hz⟩ := I.list hq
  have hl' : (assignEach es X.env).length = its.toArray.size := by simp [hn, ← hl, rv.length]
  rw [assign_Tuple]
  refine wpAny_bind (wpAny_standAt ?_)
  unfold unpack
  rw [hl', hst]
  refine wpAny_bind (wpAny_holding (PySem.W.kun_itemsOf (I.ok.hd hc) ht.isList fun h' hx => ?_))
  have I1 : Inv X pins σ H { s with heap := h' } := I.kept (t' := s.toks) fun b o e => hx b o (Nat.ne_of_lt (Heap.lt_size e)) e
  exact h.run pins _ σ H xs _ Q I1 (by simpa using rv) hw
theorem pgs_names {is : List Nat} {es : List Expr} (h : PGs X es (gIs is)) (hc : X.calm = true) {kk : Nat} (hn : (assignEach es X.env).length = is.length) (hst : (assignEach es X.env).findIdx? (·.1) = none) : PG X (.Tuple es kk pos) (gTg X.K (.tp is)) := pg_tup hc h hn hst
theorem tg_nil : PGs X [] (gIs []) := pgs_nil
theorem tg_cons {i : Nat} {is : List Nat} {x : Str} {es : List Expr} (hN : X.N.Nodup) (hi : X.N[i]? = some x) (hx : Loc X.env.scope x) (hf : X.fn x = true ∨ X.env.scope.names.lookup x = some .local) (h : PGs X es (gIs is))
    (hs : (assignEach (.Name x p :: es) X.env).map (·.2) = assign (.Name x p) X.env :: (assignEach es X.env).map (·.2)) : PGs X (.Name x p :: es) (gIs (i :: is)) := pgs_cons (pg_name hN hi hx hf) h hs
theorem tg_name {i : Nat} {x : Str} (hN : X.N.Nodup) (hi : X.N[i]? = some x) (hx : Loc X.env.scope x) (hf : X.fn x = true ∨ X.env.scope.names.lookup x = some .local) : PG X (.Name x p) (gTg X.K (.nm i)) := pg_name hN hi hx hf
/-! ### blocks -/
theorem ss_nil : SSs X Z W [] (fun K _ σ S => K.nx σ S) := PSs.imp pss_nil fun D τ H ⟨σ, S, K, Xf, er, sr, w, kd, kx⟩ => kd.nx σ S τ H (TK.refl H) er sr w
theorem ss_cons {s : Stmt} {ss : List Stmt} {w1 w2 : WS0} (h1 : SS X Z W s w1) (h2 : SSs X Z W ss w2) : SSs X Z W (s :: ss) (fun K Xf σ S => w1 { K with nx := fun σ' S' => w2 K Xf σ' S' } Xf σ S) :=
  PSs.imp (pss_cons h1 h2) fun D τ H ⟨σ, S, K, Xf, er, sr, w, kd, kx⟩ => ⟨σ, S, _, Xf, er, sr, w, ⟨fun σ2 S2 τ2 H2 k2 er2 sr2 w2 => ⟨σ2, S2, K, Xf, er2, sr2, w2, kd.keep k2, kx.keep k2⟩, kd.rt, kd.bk, kd.ct⟩, kx⟩
theorem ss_pass : SS X Z W (.Pass pos) (fun K _ σ S => K.nx σ S) := PS.imp ps_pass fun D τ H ⟨σ, S, K, Xf, er, sr, w, kd, kx⟩ => kd.nx σ S τ H (TK.refl H) er sr w
theorem ss_brk : SS X Z W (.Break pos) (fun K _ σ S => K.bk σ S) := PS.imp ps_break fun D τ H ⟨σ, S, K, Xf, er, sr, w, kd, kx⟩ => kd.bk σ S τ H (TK.refl H) er sr w
theorem ss_cnt : SS X Z W (.Continue pos) (fun K _ σ S => K.ct σ S) := PS.imp ps_continue fun D τ H ⟨σ, S, K, Xf, er, sr, w, kd, kx⟩ => kd.ct σ S τ H (TK.refl H) er sr w
theorem ss_ret (ha : SE X Z W a₀ wa) : SS X Z W (.Return (some a₀) pos) (fun K Xf σ S => wa σ S K.rt (fun x S1 => Xf x σ S1)) :=
  PS.imp (ps_ret ha) fun D τ H ⟨σ, S, K, Xf, er, sr, w, kd, kx⟩ => ⟨σ, S, _, _, er, sr, w, kd.rt, kx.kx er⟩
theorem ss_retN : SS X Z W (.Return none pos) (fun K _ σ S => K.rt .non S) := PS.imp ps_retN fun D τ H ⟨σ, S, K, Xf, er, sr, w, kd, kx⟩ => kd.rt .non .non S H (TK.refl H) sr .non w
theorem ss_ex (ha : SE X Z W a₀ wa) (hs : swapsWith a₀ none pos.line X.env = pure false) : SS X Z W (.Expr a₀ pos) (fun K Xf σ S => wa σ S (fun _ S1 => K.nx σ S1) (fun x S1 => Xf x σ S1)) :=
  PS.imp (ps_expr ha hs) fun D τ H ⟨σ, S, K, Xf, er, sr, w, kd, kx⟩ => ⟨σ, S, _, _, er, sr, w, fun d v S1 H1 k1 sr1 _ w1 => kd.nx σ S1 τ H1 k1 (er.keep k1) sr1 w1, kx.kx er⟩
theorem ss_set {i : Nat} {x : Str} (hN : X.N.Nodup) (hi : X.N[i]? = some x) (hx : Loc X.env.scope x) (hf : X.fn x = true ∨ X.env.scope.names.lookup x = some .local) (ha : SE X Z W a₀ wa) (hs : swapsWith a₀ (some (.Name x p)) pos.line X.env = pure false) :
    SS X Z W (.Assign [.Name x p] a₀ pos) (fun K Xf σ S => wa σ S (fun d S1 => K.nx (σ.set i (some d)) S1) (fun x S1 => Xf x σ S1)) :=
  PS.imp (ps_set hN hi hx ha hs hf) fun D τ H ⟨σ, S, K, Xf, er, sr, w, kd, kx⟩ => ⟨σ, S, _, _, er, sr, w, fun d v S1 H1 k1 sr1 r w1 => kd.nx _ S1 _ H1 k1 ((er.keep k1).set i r) sr1 w1, kx.kx er⟩
theorem ss_unp {is : List Nat} {es : List Expr} {kk : Nat} {tp : Pos} (hK : Z.K = X.K) (hg : PG X (.Tuple es kk tp) (gTg X.K (.tp is))) (ha : SE X Z W a₀ wa) (hs : swapsWithSole [.Tuple es kk tp] a₀ pos.line X.env = pure false) (hw : swappedStores [.Tuple es kk tp] a₀ X.env = pure none)
    (h1 : (assignEach [.Tuple es kk tp] X.env).map (·.2) = [assign (.Tuple es kk tp) X.env]) :
    SS X Z W (.Assign [.Tuple es kk tp] a₀ pos) (fun K Xf σ S => wa σ S (fun d S1 => match tgW (.tp is) d σ with | some σ' => K.nx σ' S1 | none => False) (fun x S1 => Xf x σ S1)) :=
  PS.imp (ps_asg ha hg hs hw h1) fun D τ H ⟨σ, S, K, Xf, er, sr, w, kd, kx⟩ => ⟨σ, S, _, _, er, sr, w, fun d v S1 H1 k1 sr1 r w1 => by
    dsimp only at w1
    split at w1
    · rename_i σ' e
      exact gTg_ok hK e r (er.keep k1) fun τ' er' => kd.nx _ S1 _ H1 k1 er' sr1 w1
    · exact w1.elim, kx.kx er⟩
theorem ss_unpl {is : List Nat} {es : List Expr} {kk : Nat} {tp : Pos} (hK : Z.K = X.K) (hg : PG X (.Tuple es kk tp) (gLst X.K is.length (gIs is))) (ha : SE X Z W a₀ wa) (hs : swapsWithSole [.Tuple es kk tp] a₀ pos.line X.env = pure false) (hw : swappedStores [.Tuple es kk tp] a₀ X.env = pure none)
    (h1 : (assignEach [.Tuple es kk tp] X.env).map (·.2) = [assign (.Tuple es kk tp) X.env]) :
    SS X Z W (.Assign [.Tuple es kk tp] a₀ pos) (fun K Xf σ S => wa σ S (fun d S1 => match d with | .ref a => (match rd S1 a with | some ds => (match tgW (.tp is) (.tup ds) σ with | some σ' => K.nx σ' S1 | none => False) | none => False) | _ => False) (fun x S1 => Xf x σ S1)) :=
  PS.imp (ps_asg ha hg hs hw h1) fun D τ H ⟨σ, S, K, Xf, er, sr, w, kd, kx⟩ => ⟨σ, S, _, _, er, sr, w, fun d v S1 H1 k1 sr1 r w1 => by
    dsimp only at w1
    split at w1
    · rename_i a
      split at w1
      · rename_i ds e
        split at w1
        · rename_i σ' e2
          obtain ⟨vs, sq, rs⟩ := rdAt (K := X.K) sr1 e
          unfold tgW at e2
          dsimp only at e2
          split at e2
          · rename_i hl
            cases e2
            cases r
            exact ⟨_, _, rfl, sq, by rw [← rs.length]; exact hl, gIs_ok rs hl (er.keep k1) fun τ' er' => kd.nx _ S1 _ H1 k1 er' sr1 w1⟩
          · cases e2
        · exact w1.elim
      · exact w1.elim
    · exact w1.elim, kx.kx er⟩
def rSetAny (X : Cx) : TSet := fun o i v H Q => ∃ t, PSet X t ∧ t o i v H Q
theorem rSetAny.ok (X : Cx) : PSet X (rSetAny X) := fun pins s σ H o i v ov iv u Q I ro ri rv ⟨t, h, q⟩ => h pins s σ H o i v ov iv u Q I ro ri rv q
theorem setix_ok (hu : X.A.units + 1 < cLine) {H : Hp} {S : Sto} {o i v : D} {vo vi vv : V} {Qa : Sto → Prop} {Q : Hp → Prop} (sr : SR Z S H) (ro : RD Z H o vo) (ri : RD Z H i vi) (rv : RD Z H v vv) (h : setixW o i v S Qa)
    (q : ∀ S' H', TK H H' → SR Z S' H' → Qa S' → Q H') : rSetAny X vo vi vv H Q := by
  unfold setixW at h
  split at h
  · rename_i a
    cases ro
    split at h
    · rename_i ds kk e
      cases ri
      obtain ⟨j, ej, h⟩ := h
      obtain ⟨vs, hq, rs⟩ := lstAt sr e
      have tk : TK H (upd H a (.lst (vs.set j vv))) := TK.mut hq True.intro
      refine ⟨_, set_list, a, vs, kk, j, rfl, rfl, hq, by rw [← rs.length]; exact ej, ?_⟩
      exact q _ _ tk (sr.put (c := .lst (ds.set j v)) tk ⟨_, upd_same, (rs.set rv j).keep tk⟩) h
    · rename_i kvs kk e
      cases ri
      obtain ⟨gs, hq, rs⟩ := sr a _ e
      have tk : TK H (upd H a (.dK (putK gs (kyS (.inl kk)) vv))) := TK.mut hq True.intro
      refine ⟨_, set_dict hu, a, _, rfl, DPut.k (k := kyS (.inl kk)) hq (by rw [← rs.length]; exact h.1), ?_⟩
      exact q _ _ tk (sr.put (c := .dct (dput kvs (.inl kk) v)) tk ⟨_, upd_same, (rs.put rv (.inl kk)).keep tk⟩) h.2
    · rename_i kvs l e
      cases ri
      obtain ⟨gs, hq, rs⟩ := sr a _ e
      have tk : TK H (upd H a (.dK (putK gs (kyS (.inr l)) vv))) := TK.mut hq True.intro
      refine ⟨_, set_dict hu, a, _, rfl, DPut.k (k := kyS (.inr l)) hq (by rw [← rs.length]; exact h.1), ?_⟩
      exact q _ _ tk (sr.put (c := .dct (dput kvs (.inr l) v)) tk ⟨_, upd_same, (rs.put rv (.inr l)).keep tk⟩) h.2
    · exact h.elim
  · exact h.elim
theorem ss_setix {tp : Pos} (hu : X.A.units + 1 < cLine) (hv : SE X Z W a₀ wa) (ho : SE X Z W b₀ wb) (hi : SE X Z W c₀ wc)
    (ha : ∀ v, assign (.Subscript b₀ c₀ tp) X.env v = (do
      let ov ← holding [v] (eval b₀ X.env)
      let iv ← holding [v, ov] (eval c₀ X.env)
      standAt tp
      holding [v, ov, iv] (setItem ov iv v)
      release [v, ov, iv] []))
    (hs : swapsWithSole [.Subscript b₀ c₀ tp] a₀ pos.line X.env = pure false) (hw : swappedStores [.Subscript b₀ c₀ tp] a₀ X.env = pure none) (h1 : (assignEach [.Subscript b₀ c₀ tp] X.env).map (·.2) = [assign (.Subscript b₀ c₀ tp) X.env]) :
    SS X Z W (.Assign [.Subscript b₀ c₀ tp] a₀ pos) (fun K Xf σ S => wa σ S (fun v S1 => wb σ S1 (fun x S2 => wc σ S2 (fun y S3 => setixW x y v S3 (fun S4 => K.nx σ S4)) (fun x S1 => Xf x σ S1)) (fun x S1 => Xf x σ S1)) (fun x S1 => Xf x σ S1)) :=
  PS.imp (ps_asg hv (pg_sub ho hi (rSetAny.ok X) ha) hs hw h1) fun D τ H ⟨σ, S, K, Xf, er, sr, w, kd, kx⟩ => by
    have qe := kx.kx er
    refine ⟨σ, S, _, _, er, sr, w, fun dv v S1 H1 k1 sr1 rv w1 => ?_, qe⟩
    refine ⟨σ, S1, _, _, er.keep k1, sr1, w1, fun dx x S2 H2 k2 sr2 rx w2 => ?_, qe.keep k1⟩
    refine ⟨σ, S2, _, _, (er.keep k1).keep k2, sr2, w2, fun dy y S3 H3 k3 sr3 ry w3 => ?_, (qe.keep k1).keep k2⟩
    refine setix_ok hu sr3 (rx.keep k3) ry ((rv.keep k2).keep k3) w3 fun S4 H4 k4 sr4 w4 => ?_
    have kk := ((k1.trans k2).trans k3).trans k4
    exact kd.nx σ S4 τ H4 kk (er.keep kk) sr4 w4
theorem ss_aug {i : Nat} {x : Str} {op : Bop} {o : Operator} (hK : Z.K = X.K) (hN : X.N.Nodup) (hi : X.N[i]? = some x) (hx : Loc X.env.scope x) (hf : X.fn x = true ∨ X.env.scope.names.lookup x = some .local) (ha : SE X Z W a₀ wa) (ho : o = bopOf op) :
    SS X Z W (.AugAssign (.Name x p) o a₀ pos) (fun K Xf σ S => match σ.get i with | some x => wa σ S (fun y S1 => augW op x y S1 (fun z S2 => K.nx (σ.set i (some z)) S2)) (fun x S1 => Xf x σ S1) | none => False) := by
  subst ho
  refine PS.imp (ps_aug hN hi hx ha (rAny.ok X (inplaceOp (bopOf op))) hf) fun D τ H ⟨σ, S, K, Xf, er, sr, w, kd, kx⟩ => ?_
  dsimp only at w
  split at w
  · rename_i d e
    obtain ⟨v, h1, h2⟩ := er.2 i d e
    refine ⟨v, h1, σ, S, _, _, er, sr, w, fun dy y S1 H1 k1 sr1 ry w1 => ?_, kx.kx er⟩
    refine aug_ok hK sr1 (h2.keep k1) ry w1 fun dz z S2 H2 k2 sr2 rz w2 => ?_
    exact kd.nx _ S2 _ H2 (k1.trans k2) (((er.keep k1).keep k2).set i rz) sr2 w2
  · exact w.elim
theorem ss_setat {f : Nat} {x : Str} (F : FX X Z G k) (hf : f < Z.nf) (hx : x = Z.fld f) (hv : SE X Z W a₀ wa) (ho : SE X Z W b₀ wb) (hs : swapsWith a₀ (some (.Attribute b₀ x p)) pos.line X.env = pure false) :
    SS X Z W (.Assign [.Attribute b₀ x p] a₀ pos) (fun K Xf σ S => wa σ S (fun v S1 => wb σ S1 (fun x S2 => match x with | .ref p => (match S2 p with | some (.ins c fs) => fs.length < 1000 ∧ K.nx σ (S2.upd p (.ins c (fput f v fs))) | _ => False) | _ => False) (fun x S1 => Xf x σ S1)) (fun x S1 => Xf x σ S1)) := by
  subst hx
  refine PS.imp (ps_fld ho hv hs) fun D τ H ⟨σ, S, K, Xf, er, sr, w, kd, kx⟩ => ?_
  have qe := kx.kx er
  refine ⟨σ, S, _, _, er, sr, w, fun dv v S1 H1 k1 sr1 rv w1 => ?_, qe⟩
  refine ⟨σ, S1, _, _, er.keep k1, sr1, w1, fun dx x S2 H2 k2 sr2 rx w2 => ?_, qe.keep k1⟩
  dsimp only at w2
  split at w2
  · rename_i a
    cases rx
    split at w2
    · rename_i c fs e
      obtain ⟨hc, dx, gs, hq, rf⟩ := insAt sr2 e
      have tk : TK H2 (upd H2 a (.ins (Z.cla c) dx (putF (Z.fld f) v gs))) := TK.mut hq True.intro
      refine ⟨a, _, dx, gs, rfl, hq, F.cls c hc, F.na c f hc hf, by rw [← rf.length]; exact w2.1, ?_⟩
      exact kd.nx σ _ τ _ ((k1.trans k2).trans tk) (((er.keep k1).keep k2).keep tk) (sr2.put (c := .ins c (fput f dv fs)) tk ⟨hc, dx, _, upd_same, (rf.put f hf (rv.keep k2)).keep tk⟩) w2.2
    · exact w2.elim
  · exact w2.elim
/-- o.f as a target -/
def gAtt (K : PySem.W.Frag) (to : TE) (f : Str) : TG := fun v σ H Q => to σ H fun x H1 => ∃ a C dx fs, x = .ref a ∧ H1 a = some (.ins C dx fs) ∧ Cls K C ∧ NoAttr K C f ∧ fs.length < 1000 ∧ Q σ (upd H1 a (.ins C dx (putF f v fs)))
theorem pg_att {o : Expr} {f : Str} {to : TE} (ho : PE X o to) : PG X (.Attribute o f pos) (gAtt X.K to f) := by
  refine ⟨fun pins s σ H v u Q I r h => ?_⟩
  rw [assign_Attribute]
  refine wpAny_bind (wpAny_holding (thn (ho.run pins s σ H _ I h) fun ov s1 ⟨x, H1, I1, rx, a, C, dx, fs, ex, ea, c, n, l, q⟩ => ?_))
  subst ex
  obtain rfl : ov = Value.ref a := rx
  refine wpAny_bind (wpAny_standAt (wpAny_bind (wpAny_holding (setattr_ok I1 ea c n l r fun s2 I2 => wpAny_release ⟨σ, _, I2, q⟩))))
theorem att_put {f : Nat} {d : D} {v : V} {x : D} {u : V} {S : Sto} {H : Hp} {Qa : Sto → Prop} {Q : Hp → Prop} (F : FX X Z G k) (hf : f < Z.nf) (sr : SR Z S H) (rx : RD Z H x u) (rv : RD Z H d v) (h : putatW x f d S Qa) (q : ∀ S' H', TK H H' → SR Z S' H' → Qa S' → Q H') :
    ∃ a C dx fs, u = .ref a ∧ H a = some (.ins C dx fs) ∧ Cls X.K C ∧ NoAttr X.K C (Z.fld f) ∧ fs.length < 1000 ∧ Q (upd H a (.ins C dx (putF (Z.fld f) v fs))) := by
  unfold putatW at h
  split at h
  · rename_i a
    cases rx
    split at h
    · rename_i c fs e
      obtain ⟨hc, dx, gs, hq, rf⟩ := insAt sr e
      have tk : TK H (upd H a (.ins (Z.cla c) dx (putF (Z.fld f) v gs))) := TK.mut hq True.intro
      exact ⟨a, _, dx, gs, rfl, hq, F.cls c hc, F.na c f hc hf, by rw [← rf.length]; exact h.1, q _ _ tk (sr.put (c := .ins c (fput f d fs)) tk ⟨hc, dx, _, upd_same, (rf.put f hf rv).keep tk⟩) h.2⟩
    · exact h.elim
  · exact h.elim
theorem ss_unpa {f g : Nat} {x y : Str} {kk : Nat} {p1 p2 tp : Pos} (F : FX X Z G k) (hc : X.calm = true) (hf : f < Z.nf) (hg : g < Z.nf) (hx : x = Z.fld f) (hy : y = Z.fld g) (ha : SE X Z W a₀ wa) (ho : SE X Z W b₀ wb) (ho2 : SE X Z W c₀ wc)
    (hs : swapsWithSole [.Tuple [.Attribute b₀ x p1, .Attribute c₀ y p2] kk tp] a₀ pos.line X.env = pure false) (hw : swappedStores [.Tuple [.Attribute b₀ x p1, .Attribute c₀ y p2] kk tp] a₀ X.env = pure none)
    (h1 : (assignEach [.Tuple [.Attribute b₀ x p1, .Attribute c₀ y p2] kk tp] X.env).map (·.2) = [assign (.Tuple [.Attribute b₀ x p1, .Attribute c₀ y p2] kk tp) X.env]) (hn : (assignEach [.Attribute b₀ x p1, .Attribute c₀ y p2] X.env).length = 2) (hst : (assignEach [.Attribute b₀ x p1, .Attribute c₀ y p2] X.env).findIdx? (·.1) = none)
    (h2 : (assignEach [.Attribute b₀ x p1, .Attribute c₀ y p2] X.env).map (·.2) = assign (.Attribute b₀ x p1) X.env :: (assignEach [.Attribute c₀ y p2] X.env).map (·.2)) (h3 : (assignEach [.Attribute c₀ y p2] X.env).map (·.2) = assign (.Attribute c₀ y p2) X.env :: (assignEach [] X.env).map (·.2)) :
    SS X Z W (.Assign [.Tuple [.Attribute b₀ x p1, .Attribute c₀ y p2] kk tp] a₀ pos) (fun K Xf σ S => wa σ S (fun d S1 => match d with | .tup [a, b] => wb σ S1 (fun x S2 => putatW x f a S2 (fun S3 => wc σ S3 (fun y S4 => putatW y g b S4 (fun S5 => K.nx σ S5)) (fun x S1 => Xf x σ S1))) (fun x S1 => Xf x σ S1) | _ => False) (fun x S1 => Xf x σ S1)) := by
  subst hx hy
  refine PS.imp (ps_asg ha (pg_tup (n := 2) hc (pgs_cons (pg_att ho) (pgs_cons (pg_att ho2) pgs_nil h3) h2) hn hst) hs hw h1) fun D τ H ⟨σ, S, K, Xf, er, sr, w, kd, kx⟩ => ?_
  have qe := kx.kx er
  refine ⟨σ, S, _, _, er, sr, w, fun d v S1 H1 k1 sr1 rv w1 => ?_, qe⟩
  dsimp only at w1
  split at w1
  · rename_i da db
    cases rv with
    | tup t rs =>
      cases rs with
      | cons ra rs =>
        cases rs with
        | cons rb rs =>
          cases rs
          refine ⟨_, _, rfl, by rw [← F.zk]; exact t.sq, rfl, _, _, rfl, ?_⟩
          refine ⟨σ, S1, _, _, er.keep k1, sr1, w1, fun dx x S2 H2 k2 sr2 rx w2 => ?_, qe.keep k1⟩
          refine att_put (Q := fun H' => gCons (gAtt X.K (TEx Z W wc) (Z.fld g)) gNil [_] τ H' D.nx) F hf sr2 rx (ra.keep k2) w2 fun S3 H3 k3 sr3 w3 => ?_
          have kk := (k1.trans k2).trans k3
          refine ⟨_, _, rfl, σ, S3, _, _, er.keep kk, sr3, w3, fun dy y S4 H4 k4 sr4 ry w4 => ?_, qe.keep kk⟩
          refine att_put (Q := fun H' => gNil [] τ H' D.nx) F hg sr4 ry ((((rb.keep k2).keep k3).keep k4)) w4 fun S5 H5 k5 sr5 w5 => ?_
          have kk2 := (kk.trans k4).trans k5
          exact ⟨rfl, kd.nx σ S5 τ H5 kk2 (er.keep kk2) sr5 w5⟩
  · exact w1.elim
theorem ss_augat {f : Nat} {x : Str} {op : Bop} {o : Operator} (F : FX X Z G k) (hf : f < Z.nf) (hx : x = Z.fld f) (hv : SE X Z W a₀ wa) (ho : SE X Z W b₀ wb) (hop : o = bopOf op) :
    SS X Z W (.AugAssign (.Attribute b₀ x p) o a₀ pos) (fun K Xf σ S => wb σ S (fun x S1 => match x with | .ref p => (match S1 p with | some (.ins c fs) => (match fget fs f with | some d => wa σ S1 (fun y S2 => augW op d y S2 (fun z S3 => (match S3 p with | some (.ins c' fs') => c' = c ∧ fs'.length < 1000 ∧ K.nx σ (S3.upd p (.ins c' (fput f z fs'))) | _ => False))) (fun x S1 => Xf x σ S1) | none => False) | _ => False) | _ => False) (fun x S1 => Xf x σ S1)) := by
  subst hx hop
  refine PS.imp (ps_fldaug ho hv (rAny.ok X (inplaceOp (bopOf op)))) fun D τ H ⟨σ, S, K, Xf, er, sr, w, kd, kx⟩ => ?_
  have qe := kx.kx er
  refine ⟨σ, S, _, _, er, sr, w, fun dx x S1 H1 k1 sr1 rx w1 => ?_, qe⟩
  dsimp only at w1
  split at w1
  · rename_i a
    cases rx
    split at w1
    · rename_i c fs e
      obtain ⟨hc, dx, gs, hq, rf⟩ := insAt sr1 e
      split at w1
      · rename_i d ef
        obtain ⟨v, hv1, hv2⟩ := rf.get f hf ef
        refine ⟨a, _, dx, gs, v, rfl, hq, F.cls c hc, F.na c f hc hf, hv1, ?_⟩
        refine ⟨σ, S1, _, _, er.keep k1, sr1, w1, fun dy y S2 H2 k2 sr2 ry w2 => ?_, qe.keep k1⟩
        refine aug_ok F.zk sr2 (hv2.keep k2) ry w2 fun dz z S3 H3 k3 sr3 rz w3 => ?_
        split at w3
        · rename_i c' fs' e'
          obtain ⟨rfl, hl, w3⟩ := w3
          obtain ⟨hc', dx', gs', hq', rf'⟩ := insAt sr3 e'
          have tk : TK H3 (upd H3 a (.ins (Z.cla c') dx' (putF (Z.fld f) z gs'))) := TK.mut hq' True.intro
          refine ⟨dx', gs', hq', by rw [← rf'.length]; exact hl, ?_⟩
          have kk := (k1.trans k2).trans k3
          exact kd.nx σ _ τ _ (kk.trans tk) ((er.keep kk).keep tk) (sr3.put (c := .ins c' (fput f dz fs')) tk ⟨hc', dx', _, upd_same, (rf'.put f hf rz).keep tk⟩) w3
        · exact w3.elim
      · exact w1.elim
    · exact w1.elim
  · exact w1.elim
theorem ss_ife {s1 s2 : List Stmt} {w1 w2 : WS0} (hc : SEt X Z W c₀ (toT wc)) (h1 : SSs X Z W s1 w1) (h2 : SSs X Z W s2 w2) :
    SS X Z W (.If c₀ s1 s2 pos) (fun K Xf σ S => toT wc σ S (fun r S1 => if r = true then w1 K Xf σ S1 else w2 K Xf σ S1) (fun x S1 => Xf x σ S1)) :=
  PS.imp (ps_if hc h1 h2) fun D τ H ⟨σ, S, K, Xf, er, sr, w, kd, kx⟩ => by
    refine ⟨σ, S, _, _, er, sr, w, fun r S1 H1 k1 sr1 w1 => ?_, kx.kx er⟩
    dsimp only at w1 ⊢
    cases r with
    | true => exact ⟨σ, S1, K, Xf, er.keep k1, sr1, w1, kd.keep k1, kx.keep k1⟩
    | false => exact ⟨σ, S1, K, Xf, er.keep k1, sr1, w1, kd.keep k1, kx.keep k1⟩
theorem ss_whl {body : List Stmt} {wb : WS0} (hp : PassesOwn (model X.prog X.w) X.A X.env X.xe) (hc : SEt X Z W c₀ (toT wc)) (hb : SSs X Z W body wb) :
    SS X Z W (.While c₀ body [] pos) (fun K Xf σ S => whlW (fun σ S Q => toT wc σ S Q (fun x S1 => Xf x σ S1)) (fun K σ S => wb K Xf σ S) K σ S) :=
  PS.imp (ps_while hp hc hb) fun D τ H ⟨σ, S, K, Xf, er, sr, ⟨Wi, ⟨m0, w0⟩, turn⟩, kd, kx⟩ => by
    refine ⟨fun m τ H' => TK H H' ∧ ∃ σ S, ER Z H' σ τ ∧ SR Z S H' ∧ Wi m σ S, ⟨m0, TK.refl H, σ, S, er, sr, w0⟩, fun m τ1 H1 ⟨k1, σ1, S1, er1, sr1, w1⟩ => ?_⟩
    refine ⟨σ1, S1, _, _, er1, sr1, turn m σ1 S1 w1, fun r S2 H2 k2 sr2 w2 => ?_, (kx.keep k1).kx er1⟩
    dsimp only at w2 ⊢
    cases r with
    | false => exact kd.nx σ1 S2 τ1 H2 (k1.trans k2) (er1.keep k2) sr2 w2
    | true =>
      refine ⟨fun τ' H' => ∃ m', m' < m ∧ TK H H' ∧ ∃ σ S, ER Z H' σ τ' ∧ SR Z S H' ∧ Wi m' σ S, fun _ _ h => h, ?_⟩
      refine ⟨σ1, S2, _, Xf, er1.keep k2, sr2, w2, ?_, kx.keep (k1.trans k2)⟩
      have z : ∀ σ' S' τ' H', TK H2 H' → ER Z H' σ' τ' → SR Z S' H' → (∃ m', m' < m ∧ Wi m' σ' S') → ∃ m', m' < m ∧ TK H H' ∧ ∃ σ S, ER Z H' σ τ' ∧ SR Z S H' ∧ Wi m' σ S := fun σ' S' τ' H' k' er' sr' ⟨m', hm, w'⟩ => ⟨m', hm, (k1.trans k2).trans k', σ', S', er', sr', w'⟩
      exact ⟨z, (kd.keep (k1.trans k2)).rt, (kd.keep (k1.trans k2)).nx, z⟩
theorem ss_for {body : List Stmt} {iter : Expr} {wi : Env → Sto → (List D → (Sto → Prop) → Sto → Prop) → QX → Prop} {wb : WS0} {t : Tg} (hK : Z.K = X.K) (hp : PassesOwn (model X.prog X.w) X.A X.env X.xe) (hc : X.calm = true) (hi : SI X Z W tg iter wi)
    (hg : PG X tg (gTg X.K t)) (hb : SSs X Z W body wb) (hs : ∀ x, foldedSetIterable iter X.env x = pure x) :
    SS X Z W (.For tg iter body [] pos) (fun K Xf σ S => wi σ S (fun ds live S1 => forW live t (fun K σ S => wb K Xf σ S) K ds σ S1) (fun x S1 => Xf x σ S1)) :=
  PS.imp (ps_for hp hc hi hg hb hs) fun D τ H ⟨σ, S, K, Xf, er, sr, w, kd, kx⟩ => by
    refine ⟨σ, S, _, _, er, sr, w, fun ds live S0 H0 J k0 sr0 wk w0 => ?_, kx.kx er⟩
    refine ⟨fun i m τ H' => m = ds.length - i ∧ i ≤ ds.length ∧ TK H0 H' ∧ ∃ σ S, ER Z H' σ τ ∧ SR Z S H' ∧ forW live t (fun K σ S => wb K Xf σ S) K (ds.drop i) σ S, ⟨_, rfl, Nat.zero_le _, TK.refl _, σ, S0, er.keep k0, sr0, w0⟩, ?_⟩
    rintro i m τ1 H1 ⟨rfl, hi, k1, σ1, S1, er1, sr1, w1⟩
    by_cases hlt : i < ds.length
    · rw [List.drop_eq_getElem_cons hlt] at w1
      obtain ⟨lv, w1⟩ := w1
      refine .inr ⟨wk.go i S1 H1 k1 sr1 lv hlt, fun τ' H' => TK H0 H' ∧ ∃ σ S, ER Z H' σ τ' ∧ SR Z S H' ∧ forW live t (fun K σ S => wb K Xf σ S) K (ds.drop (i + 1)) σ S, fun τ' H' h => ⟨_, by omega, rfl, hlt, h.1, h.2⟩, fun x H2 y => ?_⟩
      obtain ⟨k2, sm, rx⟩ := wk.yld i S1 H1 x H2 _ k1 sr1 lv (List.getElem?_eq_getElem hlt) y
      dsimp only at w1
      split at w1
      · rename_i σ2 e
        refine gTg_ok hK e rx (er1.keep k2) fun τ2 er2 => ?_
        refine ⟨σ2, S1, _, Xf, er2, sr1.same sm, w1, ?_, kx.keep ((k0.trans k1).trans k2)⟩
        have z : ∀ σ' S' τ' H', TK H2 H' → ER Z H' σ' τ' → SR Z S' H' → forW live t (fun K σ S => wb K Xf σ S) K (ds.drop (i + 1)) σ' S' → TK H0 H' ∧ ∃ σ S, ER Z H' σ τ' ∧ SR Z S H' ∧ forW live t (fun K σ S => wb K Xf σ S) K (ds.drop (i + 1)) σ S :=
          fun σ' S' τ' H' k' er' sr' w' => ⟨(k1.trans k2).trans k', σ', S', er', sr', w'⟩
        have kd' := kd.keep ((k0.trans k1).trans k2)
        exact ⟨z, kd'.rt, kd'.nx, z⟩
      · exact w1.elim
    · have e : i = ds.length := by omega
      subst e
      rw [List.drop_length] at w1
      exact .inl ⟨wk.stop S1 H1 k1 sr1 w1.1, kd.nx σ1 S1 τ1 H1 (k0.trans k1) er1 sr1 w1.2⟩
/-- x, y = e, f: no tuple is made -/
theorem ss_par {i j : Nat} {x y : Str} {px py pt : Pos} {kt k2 : Nat} {pt2 : Pos} (hc : X.calm = true) (hN : X.N.Nodup) (hi : X.N[i]? = some x) (hj : X.N[j]? = some y) (hij : i ≠ j) (hx : X.env.scope.names.lookup x = some .local) (hy : X.env.scope.names.lookup y = some .local)
    (ha : SAs X Z W [a₀, b₀] ws) (hw : swappedStores [.Tuple [.Name x px, .Name y py] kt pt] (.Tuple [a₀, b₀] k2 pt2) X.env = pure (some [x, y])) (hs : swapsWithSole [.Tuple [.Name x px, .Name y py] kt pt] (.Tuple [a₀, b₀] k2 pt2) pos.line X.env = pure false) :
    SS X Z W (.Assign [.Tuple [.Name x px, .Name y py] kt pt] (.Tuple [a₀, b₀] k2 pt2) pos) (fun K Xf σ S => ws σ S (fun ds S1 => ds.length ≤ sizeLine ∧ (match tgW (.tp [i, j]) (.tup ds) σ with | some σ' => K.nx σ' S1 | none => False)) (fun x S1 => Xf x σ S1)) :=
  PS.imp (ps_par hc hN hi hj hij hx hy ha hw hs) fun D τ H ⟨σ, S, K, Xf, er, sr, w, kd, kx⟩ => by
    refine ⟨σ, S, _, _, er, sr, w, fun ds vs S1 H1 k1 sr1 rs w1 => ?_, kx.kx er⟩
    obtain ⟨_, w1⟩ := w1
    split at w1
    · rename_i σ' e
      unfold tgW at e
      dsimp only at e
      split at e
      · rename_i hl
        cases e
        match ds, vs, rs, hl, w1 with
        | [d1, d2], _, .cons r1 (.cons r2 .nil), _, w1 => exact ⟨_, _, rfl, kd.nx _ S1 _ H1 k1 (((er.keep k1).set i r1).set j r2) sr1 w1⟩
      · cases e
    · exact w1.elim
theorem ss_par3 {i j l : Nat} {x y z : Str} {px py pz pt : Pos} {kt k2 : Nat} {pt2 : Pos} (hc : X.calm = true) (hN : X.N.Nodup) (hi : X.N[i]? = some x) (hj : X.N[j]? = some y) (hl : X.N[l]? = some z) (hij : i ≠ j) (hil : i ≠ l) (hjl : j ≠ l) (hx : X.env.scope.names.lookup x = some .local) (hy : X.env.scope.names.lookup y = some .local) (hz : X.env.scope.names.lookup z = some .local)
    (ha : SAs X Z W [a₀, b₀, c₀] ws) (hw : swappedStores [.Tuple [.Name x px, .Name y py, .Name z pz] kt pt] (.Tuple [a₀, b₀, c₀] k2 pt2) X.env = pure (some [x, y, z])) (hs : swapsWithSole [.Tuple [.Name x px, .Name y py, .Name z pz] kt pt] (.Tuple [a₀, b₀, c₀] k2 pt2) pos.line X.env = pure false) :
    SS X Z W (.Assign [.Tuple [.Name x px, .Name y py, .Name z pz] kt pt] (.Tuple [a₀, b₀, c₀] k2 pt2) pos) (fun K Xf σ S => ws σ S (fun ds S1 => ds.length ≤ sizeLine ∧ (match tgW (.tp [i, j, l]) (.tup ds) σ with | some σ' => K.nx σ' S1 | none => False)) (fun x S1 => Xf x σ S1)) :=
  PS.imp (ps_par3 hc hN hi hj hl hij hil hjl hx hy hz ha hw hs) fun D τ H ⟨σ, S, K, Xf, er, sr, w, kd, kx⟩ => by
    refine ⟨σ, S, _, _, er, sr, w, fun ds vs S1 H1 k1 sr1 rs w1 => ?_, kx.kx er⟩
    obtain ⟨_, w1⟩ := w1
    split at w1
    · rename_i σ' e
      unfold tgW at e
      dsimp only at e
      split at e
      · rename_i hl
        cases e
        match ds, vs, rs, hl, w1 with
        | [d1, d2, d3], _, .cons r1 (.cons r2 (.cons r3 .nil)), _, w1 => exact ⟨_, _, _, rfl, kd.nx _ S1 _ H1 k1 ((((er.keep k1).set i r1).set j r2).set l r3) sr1 w1⟩
      · cases e
    · exact w1.elim
end
end Mini
end L2
/-! Mini, part K: exceptions: clauses with and without a name, made, raised -/
namespace L2
namespace Mini
open PySem PySem.Spec PyProof.Rows
/-- a clause: its class, the slot of its name, its suite's reading -/
structure Hcl where
  c : Value
  sl : Option Nat
  ts : Addr → Value → Option Addr → TS
def Dsl (D : Ends) : Option Nat → Ends
  | none => D
  | some i => ⟨fun σ H => D.nx (σ.set i none) H, D.rt, fun σ H => D.bk (σ.set i none) H, fun σ H => D.ct (σ.set i none) H⟩
def σsl (σ : St) (a : Addr) : Option Nat → St
  | none => σ
  | some i => σ.set i (some (.ref a))
/-- what the clauses wish -/
def wHs (K : PySem.W.Frag) (Wout : WX) (D : Ends) : List Hcl → WX
  | [] => Wout
  | h :: r => fun cls d σ H => ∃ b, PySem.W.exmOne K cls h.c = some b ∧ (b = true → ∀ a, H a = none → h.ts a cls d (Dsl D h.sl) (σsl σ a h.sl) H) ∧ (b = false → wHs K Wout D r cls d σ H)
inductive HcOk (X : Cx) : List ExceptHandler → List Hcl → Prop
  | nil : HcOk X [] []
  | plain {x : Str} {c : Value} {ts : Addr → Value → Option Addr → TS} {b₀ : Stmt} {su : List Stmt} {np p1 : Pos} {hds : List ExceptHandler} {l : List Hcl} (hc : Names X x c)
      (hsu : ∀ (a : Addr) (oe : Obj) (cls : Value) (d : Option Addr) (pn : List (Addr × Obj)), Zc cls d oe → (∃ vs, oe.data = .fields vs) → PSs (X.suite a ((a, oe) :: pn)) (b₀ :: su) (ts a cls d)) (r : HcOk X hds l) :
      HcOk X (.ExceptHandler (some (.Name x np)) none (b₀ :: su) p1 :: hds) (⟨c, none, ts⟩ :: l)
  | named {x n : Str} {i : Nat} {c : Value} {ts : Addr → Value → Option Addr → TS} {b₀ : Stmt} {su : List Stmt} {np p1 : Pos} {hds : List ExceptHandler} {l : List Hcl} (hN : X.N.Nodup) (hi : X.N[i]? = some n) (hln : X.env.kindOf n = some .local) (hc : Names X x c)
      (hsu : ∀ (a : Addr) (oe : Obj) (cls : Value) (d : Option Addr) (pn : List (Addr × Obj)), Zc cls d oe → (∃ vs, oe.data = .fields vs) → PSs (X.suite a ((a, oe) :: pn)) (b₀ :: su) (ts a cls d)) (r : HcOk X hds l) :
      HcOk X (.ExceptHandler (some (.Name x np)) (some n) (b₀ :: su) p1 :: hds) (⟨c, some i, ts⟩ :: l)
section
variable {X : Cx} {body : List Stmt} {h₀ : ExceptHandler} {hds : List ExceptHandler} {l : List Hcl} {pos : Pos} {tb : WX → TS} {Wout : WX}
/-- behind the suite the state is the def's again -/
theorem SP.ofSuite {X : Cx} {D : Ends} {pins : List (Addr × Obj)} {a : Addr} {oe : Obj} {f : Flow} {s' : Shared} (ok : X.Ok) (h : SP (X.suite a ((a, oe) :: (X.pn ++ pins))) [] D f s') : SP X pins D f s' := by
  cases f with
  | next => exact let ⟨_, _, S6, q6⟩ := h; ⟨_, _, S6.unsuite ok, q6⟩
  | brk => exact let ⟨_, _, S6, q6⟩ := h; ⟨_, _, S6.unsuite ok, q6⟩
  | cont => exact let ⟨_, _, S6, q6⟩ := h; ⟨_, _, S6.unsuite ok, q6⟩
  | ret u => exact let ⟨_, _, _, S6, r6, q6⟩ := h; ⟨_, _, _, S6.unsuite ok, r6, q6⟩
/-- behind a suite with a name: the name is gone -/
theorem SP.ofNamed {X : Cx} {D : Ends} {pins : List (Addr × Obj)} {a : Addr} {oe : Obj} {i : Nat} {n : Str} {p1 : Pos} {f : Flow} {s' : Shared} (ok : X.Ok) (hN : X.N.Nodup) (hi : X.N[i]? = some n) (hln : X.env.kindOf n = some .local)
    (h : SP (X.suite a ((a, oe) :: (X.pn ++ pins))) [] (Dsl D (some i)) f s') : wpAny (model X.prog X.w) X.A (do bindName X.env n .none; unbindBehindTheSuite X.env n p1) (fun _ s7 => SP X pins D f s7) X.xe s' := by
  have fin : ∀ {σ6 : St} {H6 : Hp}, Inv (X.suite a ((a, oe) :: (X.pn ++ pins))) [] σ6 H6 s' → (∀ s7, Inv X pins (σ6.set i none) H6 s7 → SP X pins D f s7) →
    wpAny (model X.prog X.w) X.A (do bindName X.env n .none; unbindBehindTheSuite X.env n p1) (fun _ s7 => SP X pins D f s7) X.xe s' := fun S6 hq => gone_ok (S6.unsuite ok) hN hi hln hq
  cases f with
  | next => exact let ⟨_, _, S6, q6⟩ := h; fin S6 fun s7 J7 => ⟨_, _, J7, q6⟩
  | brk => exact let ⟨_, _, S6, q6⟩ := h; fin S6 fun s7 J7 => ⟨_, _, J7, q6⟩
  | cont => exact let ⟨_, _, S6, q6⟩ := h; fin S6 fun s7 J7 => ⟨_, _, J7, q6⟩
  | ret u => exact let ⟨_, _, _, S6, r6, q6⟩ := h; fin S6 fun s7 J7 => ⟨_, _, _, J7, r6, q6⟩
theorem SP.ofTry {D : Ends} {pins : List (Addr × Obj)} {xe : Value → Shared → Prop} {f : Flow} {s' : Shared} (ok : X.Ok) (h : SP (X.tr (X.pn ++ pins) xe) [] D f s') : SP X pins D f s' := by
  cases f with
  | next => exact let ⟨_, _, J, q⟩ := h; ⟨_, _, J.ofTry ok, q⟩
  | brk => exact let ⟨_, _, J, q⟩ := h; ⟨_, _, J.ofTry ok, q⟩
  | cont => exact let ⟨_, _, J, q⟩ := h; ⟨_, _, J.ofTry ok, q⟩
  | ret u => exact let ⟨_, _, _, J, r, q⟩ := h; ⟨_, _, _, J.ofTry ok, r, q⟩
/-- the clauses one after the other, the exception on the ground -/
theorem clauses_ok {pins : List (Addr × Obj)} {D : Ends} {s1 : Shared} {sI : Shared} {h3 : Heap} {a : Addr} {B : Heap} {σ' : St} {H' : Hp} {cls : Value} {d : Option Addr} (hs : X.stack = X.env :: X.outer) (hf : X.env.frame = some X.env.locals) (tk : Takes X Wout) (ok : X.Ok)
    (J : Inv X pins σ' H' sI) (nb : ∀ b o, sI.heap.get? b = some o → b ∉ frs X.stack → B.get? b = some o) (fl3 : HandSPX.FlyingZ B (X.env :: X.outer) a (Zc cls d) h3) (up : sI.heap.UpToSlots h3) (os : s1.os = sI.os) (ag : AllBare s1.gens) (na : H' a = none)
    (nL : a ≠ X.env.locals) (nF : a ∉ X.fs) : ∀ {hs' : List ExceptHandler} {l' : List Hcl}, HcOk X hs' l' → wHs X.K Wout D l' cls d σ' H' → wpAny (model X.prog X.w) X.A (handleBy (.ref a) X.env hs') (SP X pins D) X.xe { s1 with heap := h3 } := by
  obtain ⟨oe3, vs3, he3, hz3, hd3⟩ := fl3.there
  have J3 : Inv X pins σ' H' { s1 with heap := h3 } := J.landed nb fl3.1 up os ag
  have S3 := J3.suite he3 hd3 na nL nF
  -- the clause's test
  have tst : ∀ {x : Str} {c : Value} {np : Pos} {b : Bool} {Q : Bool → Shared → Prop} {E : Value → Shared → Prop}, Names X x c → PySem.W.exmOne X.K cls c = some b → (∀ {Q' : Value → Shared → Prop}, Q' c { s1 with heap := h3 } → wpAny (model X.prog X.w) (X.A.mark (some (.ref a))) (eval (.Name x np) X.env) Q' E { s1 with heap := h3 }) := by
    intro x c np b Q E hc hb Q' q
    obtain ⟨hg, hdbg, hm | ⟨hm, hv, hnn⟩⟩ := hc
    · exact ld_glob (X := X.suite a ((a, oe3) :: (X.pn ++ pins))) S3 hg hm q hdbg
    · exact ld_blt (X := X.suite a ((a, oe3) :: (X.pn ++ pins))) S3 hg hm hv q hnn hdbg
  have LT : PySem.W.Looks (model X.prog X.w) h3 (typeOf (.ref a)) cls := fun A Q E s k q => wpAny_typeOf_ref (k _ _ he3) (by rw [hz3.1]; exact q)
  intro hs' l' hk
  induction hk with
  | nil =>
    intro w
    obtain ⟨k1, k2, k3, oe, vs, T, oT, tsz, he, hz, hd, h1, hr⟩ := id fl3
    refine wpAny_handleBy_nil ?_
    unfold PySem.passOn
    refine wpAny_bind (wpAny_field he hd h1 ?_)
    rw [if_neg (show ¬ ((Value.ref T == Value.none) = true) by simp)]
    have fin : wpAny (model X.prog X.w) X.A (setFlight (.ref a) X.env.frame) (fun _ s4 => wpAny (model X.prog X.w) X.A (throw (.ref a) : Sem Flow) (SP X pins D) X.xe s4) X.xe { s1 with heap := h3 } := by
      rw [hf]
      refine HandSPX.setFlight_upZ fl3 fun h4 hh4 up4 => wpAny_throw (tk _ _ ?_)
      refine ⟨a, B, sI, pins, σ', H', cls, d, rfl, J, nb, up.trans up4, .inr (.inr ?_), na, os, ag, w⟩
      rw [hs]; exact hh4
    first
      | exact wpAny_bind (wpAny_pure (wpAny_bind fin))
      | exact wpAny_bind fin
  | @plain x c ts b₀ su np p1 hds2 l2 hc hsu r ih =>
    intro w
    obtain ⟨b, hb1, hyes, hno⟩ := w
    refine wpAny_handleBy_cons (codeAny_handlers_test (tst (b := b) (Q := fun _ _ => True) hc hb1 ((PySem.W.exm_one (M := model X.prog X.w) J3.kIn LT hb1).here ?_))) (by intro q; cases q)
    cases b with
    | false => exact ih (hno rfl)
    | true =>
      refine codeAny_handlers_suite (HandSPX.lands_againZ fl3 fun h4 fl4 up4 => ?_)
      obtain ⟨oe4, vs4, he4, hz4, hd4⟩ := fl4.there
      have J4 : Inv X pins σ' H' { s1 with heap := h4 } := J.landed nb fl4.1 (up.trans up4) os ag
      exact wpAny_mono ((hsu a oe4 cls d (X.pn ++ pins) hz4 ⟨_, hd4⟩).run [] _ _ H' _ (J4.suite he4 hd4 na nL nF) (hyes rfl a na)) (fun f s6 h => SP.ofSuite ok h) fun _ _ z => z.elim
  | @named x n i c ts b₀ su np p1 hds2 l2 hN hi hln hc hsu r ih =>
    intro w
    obtain ⟨b, hb1, hyes, hno⟩ := w
    refine wpAny_handleBy_cons (codeAny_handlers_test (tst (b := b) (Q := fun _ _ => True) hc hb1 ((PySem.W.exm_one (M := model X.prog X.w) J3.kIn LT hb1).here ?_))) (by intro q; cases q)
    cases b with
    | false => exact ih (hno rfl)
    | true =>
      refine codeAny_handlers_suite_as (HandSPX.lands_againZ fl3 fun h4 fl4 up4 => ?_)
      obtain ⟨oe4, vs4, he4, hz4, hd4⟩ := fl4.there
      have J4 : Inv X pins σ' H' { s1 with heap := h4 } := J.landed nb fl4.1 (up.trans up4) os ag
      refine store_ok (X := X.suite a ((a, oe4) :: (X.pn ++ pins))) (v := .ref a) (J4.suite he4 hd4 na nL nF) hN hi (.inl hln) rfl (fun s5 S5 => ?_) (.inr hln)
      refine wpAny_mono ((hsu a oe4 cls d (X.pn ++ pins) hz4 ⟨_, hd4⟩).run [] s5 _ H' _ S5 (hyes rfl a na)) (fun f s6 h => ?_) fun _ _ z => z.elim
      have e := SP.ofNamed (p1 := p1) ok hN hi hln h
      cases f <;> exact e
theorem ps_tryH (hs : X.stack = X.env :: X.outer) (hf : X.env.frame = some X.env.locals) (tk : Takes X Wout)
    (hb : ∀ (W : WX) (pn : List (Addr × Obj)) (xe : Value → Shared → Prop), Takes (X.tr pn xe) W → PassesOwn (model X.prog X.w) X.A X.env xe → PSs (X.tr pn xe) body (tb W)) (hh : HcOk X (h₀ :: hds) l) :
    PS X (.Try body (h₀ :: hds) [] [] pos) (fun D σ H => tb (wHs X.K Wout D l) D σ H) := by
  refine ⟨fun pins s σ H D I h => wpAny_Try_except ?_⟩
  have ok := I.ok
  have hfr : X.A.frames = some (X.env :: X.outer) := by rw [ok.frames, hs]
  refine wpAny_mono ((hb _ (X.pn ++ pins) (fun e s₁ => wpAny (model X.prog X.w) X.A (noteFrame e X.env) (fun _ s₂ => wpAny (model X.prog X.w) X.A (setFlight e none) (fun _ s₃ => wpAny (model X.prog X.w) X.A (handleBy e X.env (h₀ :: hds)) (SP X pins D) X.xe s₃) X.xe s₂) X.xe s₁)
    (fun u s' xx => ?_) PassesOwn.looking).run [] s σ H D (I.toTry _) h) (fun f s1 hsp => ?_) (fun _ _ he => he)
  · obtain ⟨a, B, sI, pins', σ', H', cls, d, rfl, J', nb, up, sky, na, os, ag, w⟩ := xx
    have J : Inv X pins σ' H' sI := J'.ofTry ok
    have sky' : Sky B (X.env :: X.outer) a (Zc cls d) X.env.locals s'.heap := by rw [← hs]; exact sky
    show wpAny _ _ (noteFrame (.ref a) X.env) _ _ _
    refine Sky.land Zc.steady hfr hf sky' fun h3 fl3 up3 => ?_
    obtain ⟨oe3, vs3, he3, hz3, hd3⟩ := fl3.there
    have nfr : a ∉ frs (X.env :: X.outer) := fun hm => by
      obtain ⟨_, o', e', hnf⟩ := fl3.2.2.1.mem hm
      rw [he3] at e'
      cases e'
      exact hnf _ hd3
    have nL : a ≠ X.env.locals := fun z => nfr (List.mem_filterMap.mpr ⟨X.env, List.mem_cons_self, by rw [hf, z]⟩)
    have nF : a ∉ X.fs := fun hm => let ⟨e, he, q⟩ := List.mem_filterMap.mp hm; nfr (List.mem_filterMap.mpr ⟨e, List.mem_cons_of_mem _ he, q⟩)
    exact clauses_ok hs hf tk ok J nb fl3 (up.trans up3) os ag na nL nF hh w
  · have q := SP.ofTry ok hsp
    cases f with
    | next => exact wpAny_execs_nil q
    | brk => exact q
    | cont => exact q
    | ret u => exact q
end
end Mini
end L2
/-! Mini, part L: raise, try -/
namespace L2
namespace Mini
open PySem PySem.Spec PyProof.Rows
/-- what «except C» says of an exception of class c -/
theorem exm_of {K : PySem.W.Frag} {c C : Addr} {b : Bool} (h1 : PySem.W.subIn K (.ref C) (.type "BaseException") = some true) (h2 : PySem.W.isClsIn K C = true) (h3 : PySem.W.typeIn K (.ref C) = some (.type "type"))
    (h4 : PySem.W.subIn K (.ref c) (.ref C) = some b) : PySem.W.exmOne K (.ref c) (.ref C) = some b := by
  have q2 : (PySem.W.clsIn K C).isSome = true := h2
  unfold PySem.W.exmOne PySem.W.kitCls
  rw [h1]
  dsimp only
  rw [h3, q2, h4]
  simp
/-- X(), X an own class without own __init__ -/
theorem mx0 {X : Cx} {C : Addr} {bmB : List Value} {B newId initId : String} {x : Str} {p pos : Pos} (F : ExcBaseFacts B newId initId bmB) (q : PySem.W.excIn X.K C bmB newId = true) (gC : X.mg x = some (.ref C)) (kC : PySem.W.keepIn X.K (.ref C) = true) (r : Raises X (.ref C)) (hg : Gl X x)
    (hdb : (x == ("__debug__" : Str)) = false) : PMk X (.Call (.Name x p) [] [] pos) (fun _ H Q => Q (.ref C) none H) := by
  intro pins s σ H Q I h
  refine wpAny_Call_Name_kw (ld_glob I hg gC ?_ hdb)
  refine PySem.W.callWith_K0 I.kIn kC ?_
  show wpAny _ _ (call (.ref C) []) _ _ _
  obtain ⟨bm, N, nm, qn, bs, hdct, sn, sub, ab, col, dd, k0, k1, k2, k3, k5, mN, hC, hN, hni, T⟩ := exc_obj I.kIn q
  obtain ⟨hp1, g1, d1, tk1, os1⟩ := s
  exact wpAny_call_exc_subT F T hC hN hni (fun h' e hm => mk_of I hm r h (I.hok.gone hm.new)) (Nat.zero_le _)
/-- __init__(self, ..): self.f = .. -/
def SpI (C : Addr) (fn : List Str) : Sp := fun vs H Q _ => ∃ (a : Addr) (us : List V), vs = .ref a :: us ∧ us.length = fn.length ∧ H a = some (exo a C none) ∧ ∀ d, H d = none → d ≠ a → Q .non (upd (upd H d (exd d (fn.zip us).reverse)) a (exo a C (some d)))
section
variable {P : Program} {w : World} {K : PySem.W.Frag} {mg : Str → Option Value} {base : Heap}
theorem ok_ini1 {x qual sf a1 f1 : Str} {st : Stmt} {f C : Addr} {fd : FuncData} (F : Fun K x qual st f fd) (S : FnScope [sf, a1] [sf, a1] (defScope st)) (T : OexC K C) (n1 : PySem.W.findIn K (.ref C) f1 = some none)
    (hb : ∀ (cdv : Value) (A : Around) (outer : List PySem.Env) (s : Shared) (H : Hp) (E : XK), PSs (cxOf (L2.CX P w) P w K mg base [sf, a1] qual (defScope st) f cdv A outer s H E) (defBody st) (tSeq (tOst K f1 (tVar 0) (tVar 1)) tNext)) :
    FnOk P w K mg base (L2.CX P w) 1 f fd [sf, a1] (SpI C [f1]) := by
  refine F.okX S (fun vs H Q E h => ?_) (fun cdv A outer s H vs Q E hr h => ⟨_, hb cdv A outer s H E, ?_⟩)
  · obtain ⟨a, us, rfl, hl, _⟩ := h
    simpa using hl
  · obtain ⟨a, us, rfl, hl, ha, q⟩ := h
    obtain ⟨u, rfl⟩ : ∃ u, us = [u] := by
      match us, hl with
      | [u], _ => exact ⟨u, rfl⟩
    exact ⟨u, rfl, .ref a, rfl, a, C, rfl, T, n1, .inl ⟨ha, fun dx n ne => q dx n ne⟩⟩
theorem ok_ini2 {x qual sf a1 a2 f1 f2 : Str} {st : Stmt} {f C : Addr} {fd : FuncData} (F : Fun K x qual st f fd) (S : FnScope [sf, a1, a2] [sf, a1, a2] (defScope st)) (T : OexC K C) (n1 : PySem.W.findIn K (.ref C) f1 = some none) (n2 : PySem.W.findIn K (.ref C) f2 = some none)
    (hb : ∀ (cdv : Value) (A : Around) (outer : List PySem.Env) (s : Shared) (H : Hp) (E : XK), PSs (cxOf (L2.CX P w) P w K mg base [sf, a1, a2] qual (defScope st) f cdv A outer s H E) (defBody st) (tSeq (tOst K f1 (tVar 0) (tVar 1)) (tSeq (tOst K f2 (tVar 0) (tVar 2)) tNext))) :
    FnOk P w K mg base (L2.CX P w) 1 f fd [sf, a1, a2] (SpI C [f1, f2]) := by
  refine F.okX S (fun vs H Q E h => ?_) (fun cdv A outer s H vs Q E hr h => ⟨_, hb cdv A outer s H E, ?_⟩)
  · obtain ⟨a, us, rfl, hl, _⟩ := h
    simpa using hl
  · obtain ⟨a, us, rfl, hl, ha, q⟩ := h
    obtain ⟨u, v, rfl⟩ : ∃ u v, us = [u, v] := by
      match us, hl with
      | [u, v], _ => exact ⟨u, v, rfl⟩
    refine ⟨u, rfl, .ref a, rfl, a, C, rfl, T, n1, .inl ⟨ha, fun dx n ne => ?_⟩⟩
    refine ⟨v, rfl, .ref a, rfl, a, C, rfl, T, n2, .inr ⟨dx, _, upd_same, by rw [upd_ne ne]; exact upd_same, by show 1 ≤ 900; decide, ?_⟩⟩
    have e : upd (upd (upd H dx (exd dx [(f1, u)])) a (exo a C (some dx))) dx (exd dx ((f2, v) :: [(f1, u)])) = upd (upd H dx (exd dx (([f1, f2].zip [u, v]).reverse))) a (exo a C (some dx)) := by
      funext b
      by_cases h1 : b = dx
      · subst h1; rw [upd_same, upd_ne ne, upd_same]; rfl
      · rw [upd_ne h1]
        by_cases h2 : b = a
        · subst h2; rw [upd_same, upd_same]
        · rw [upd_ne h2, upd_ne h2, upd_ne h1, upd_ne h1]
    rw [e]
    exact q dx n ne
end
section
variable {X : Cx} {Z : Nm} {G : Gam} {k : Nat} {W : WX} {a₀ b₀ c₀ e₀ tg : Expr} {es₀ : List Expr} {wa wb wc : WE0} {ws : Env → Sto → (List D → Sto → Prop) → QX → Prop} {pos apos p : Pos}
theorem RF.app {H : Hp} : ∀ {fs gs : List (Nat × D)} {hs ks : List (Str × V)}, RF Z H fs hs → RF Z H gs ks → RF Z H (fs ++ gs) (hs ++ ks)
  | _, _, _, _, .nil, r => r
  | _, _, _, _, .cons l r t, q => .cons l r (RF.app t q)
theorem RF.rev {H : Hp} : ∀ {fs : List (Nat × D)} {hs : List (Str × V)}, RF Z H fs hs → RF Z H fs.reverse hs.reverse
  | _, _, .nil => .nil
  | _, _, .cons l r t => by
    rw [List.reverse_cons, List.reverse_cons]
    exact RF.app (RF.rev t) (.cons l r .nil)
theorem RF.zip {H : Hp} : ∀ {fl : List Nat} {ds : List D} {vs : List V}, (∀ f ∈ fl, f < Z.nf) → RDs Z H ds vs → RF Z H (fl.zip ds) ((fl.map Z.fld).zip vs)
  | [], _, _, _, _ => by simp only [List.zip_nil_left, List.map_nil]; exact .nil
  | f :: fl, [], _, _, r => by cases r; exact .nil
  | f :: fl, d :: ds, _, h, r => by
    cases r with
    | cons r rs => exact .cons (h f List.mem_cons_self) r (RF.zip (fun g hg => h g (List.mem_cons_of_mem _ hg)) rs)
theorem ss_raise0 {c : Nat} {x : Str} {bmB : List Value} {B newId initId : String} (hc : X.calm = true) (tk : Takes X W) (cn : Z.nc ≤ c ∧ c < Z.nx) (hf : G.xfl c = []) (F : ExcBaseFacts B newId initId bmB) (q : PySem.W.excIn X.K (Z.cla c) bmB newId = true)
    (gC : X.mg x = some (.ref (Z.cla c))) (kC : PySem.W.keepIn X.K (.ref (Z.cla c)) = true) (r : Raises X (.ref (Z.cla c))) (hg : Gl X x) (hdb : (x == ("__debug__" : Str)) = false) :
    SS X Z W (.Raise (some (.Call (.Name x p) [] [] apos)) none pos) (fun K Xf σ S => 0 = (G.xfl c).length ∧ Xf ⟨c, ((G.xfl c).zip []).reverse⟩ σ S) :=
  PS.imp (ps_raise hc tk (mx0 F q gC kC r hg hdb)) fun D τ H ⟨σ, S, K, Xf, er, sr, w, kd, kx⟩ => by
    have w2 := w.2
    rw [hf] at w2
    exact kx ⟨c, []⟩ _ none σ S τ H (TK.refl H) er sr ⟨cn, rfl, rfl⟩ w2
theorem ss_raiseI {c fI j : Nat} {f : Addr} {x : Str} {fd : FuncData} {ps : List Str} (hc : X.calm = true) (tk : Takes X W) (cn : Z.nc ≤ c ∧ c < Z.nx) (hfl : ∀ f ∈ G.xfl c, f < Z.nf) (T : OexC X.K (Z.cla c)) (iC : PySem.W.findIn X.K (.ref (Z.cla c)) "__init__" = some (some (.ref f)))
    (tI : PySem.W.typeIn X.K (.ref f) = some (.type "function")) (F1 : FnOk X.prog X.w X.K X.mg X.base (L2.CX X.prog X.w) 1 f fd ps (SpI (Z.cla c) ((G.xfl c).map Z.fld))) (hr : Room 2 X.A) (hb : Binds X.K fd ps []) (hg : Gl X x) (hm : X.mg x = some (.ref (Z.cla c))) (ha : SAs X Z W (e₀ :: es₀) ws)
    (hdb : (x == ("__debug__" : Str)) = false) (he : starEach (e₀ :: es₀) X.env = (false, eval e₀ X.env) :: starEach es₀ X.env) (hpl : (backTo apos (starEach es₀ X.env)).any (·.1) = false) (hsm : (G.xfl c).length ≤ 1000) :
    SS X Z W (.Raise (some (.Call (.Name x p) (e₀ :: es₀) [] apos)) none pos) (fun K Xf σ S => ws σ S (fun ds S1 => ds.length = (G.xfl c).length ∧ Xf ⟨c, ((G.xfl c).zip ds).reverse⟩ σ S1) (fun x S1 => Xf x σ S1)) :=
  PS.imp (ps_raise hc tk (pmk_oex T iC tI F1 hr hb .nil (passes_call takes0 (fun _ _ _ _ z => z)) hg hm ha hdb he hpl)) fun D τ H ⟨σ, S, K, Xf, er, sr, w, kd, kx⟩ => by
    refine ⟨σ, S, _, _, er, sr, w, fun ds vs S1 H1 k1 sr1 rs w1 => ?_, kx.kx er⟩
    have hl := rs.length
    refine ⟨by omega, fun a na => ⟨a, vs, by rw [List.append_nil], by rw [List.length_map]; omega, upd_same, fun d nd ne => ?_⟩⟩
    have hd1 : H1 d = none := by rw [upd_ne ne] at nd; exact nd
    refine ⟨rfl, d, _, upd_same, by rw [upd_ne ne]; exact upd_same, hd1, ?_⟩
    have e : upd (del (upd (upd (upd H1 a (exo a (Z.cla c) none)) d (exd d (((G.xfl c).map Z.fld).zip vs).reverse)) a (exo a (Z.cla c) (some d))) a) d (.xd (((G.xfl c).map Z.fld).zip vs).reverse) = upd H1 d (.xd (((G.xfl c).map Z.fld).zip vs).reverse) := by
      funext b
      by_cases h1 : b = d
      · subst h1; rw [upd_same, upd_same]
      · rw [upd_ne h1, upd_ne h1]
        by_cases h2 : b = a
        · subst h2; rw [del_same]; exact na.symm
        · rw [del_ne h2, upd_ne h2, upd_ne h1, upd_ne h2]
    rw [e]
    have tk2 : TK H1 (upd H1 d (.xd (((G.xfl c).map Z.fld).zip vs).reverse)) := TK.new hd1
    exact kx _ _ _ σ S1 τ _ (k1.trans tk2) ((er.keep k1).keep tk2) (sr1.new hd1) ⟨cn, rfl, _, upd_same, ((RF.zip hfl rs).rev).keep tk2⟩ w1.2
/-! ### clauses -/
def HsOk (X : Cx) (Z : Nm) (W : WX) (G : Gam) (hds : List ExceptHandler) (hs : List (Nat × Su)) : Prop := ∃ l, HcOk X hds l ∧ ∀ D K Xf H x cls dd σ S τ, KD Z H K D → KX Z W H Xf → ER Z H σ τ → SR Z S H → XR Z H x cls dd → tryW G hs x K Xf σ S → wHs X.K W D l cls dd τ H
def ExmOk (K : PySem.W.Frag) (Z : Nm) (G : Gam) (c : Nat) : Prop := ∀ c', Z.nc ≤ c' ∧ c' < Z.nx → PySem.W.exmOne K (.ref (Z.cla c')) (.ref (Z.cla c)) = some (G.xsub c' c)
theorem hs_nil : HsOk X Z W G [] [] := ⟨[], .nil, fun D K Xf H x cls dd σ S τ kd kx er sr xr w => kx x cls dd σ S τ H (TK.refl H) er sr xr w⟩
theorem hs_step {c : Nat} {su : Su} {hs : List (Nat × Su)} {D : Ends} {K : En} {Xf : EX} {H : Hp} {x : Xn} {cls : Value} {dd : Option Addr} {σ : Env} {S : Sto} {τ : St} {l : List Hcl} {h : Hcl} (ex : ExmOk X.K Z G c) (hc : h.c = .ref (Z.cla c)) (xr : XR Z H x cls dd)
    (w : tryW G ((c, su) :: hs) x K Xf σ S) (yes : suW su x K σ S → ∀ a, H a = none → h.ts a cls dd (Dsl D h.sl) (σsl τ a h.sl) H) (no : tryW G hs x K Xf σ S → wHs X.K W D l cls dd τ H) : wHs X.K W D (h :: l) cls dd τ H := by
  refine ⟨G.xsub x.c c, by rw [hc, xr.2.1]; exact ex x.c xr.1, fun e => ?_, fun e => ?_⟩
  · unfold tryW at w; rw [if_pos e] at w; exact yes w
  · unfold tryW at w; rw [if_neg (by rw [e]; exact Bool.false_ne_true)] at w; exact no w
theorem hs_ret {c : Nat} {x : Str} {np p1 : Pos} {hds : List ExceptHandler} {hs : List (Nat × Su)} {e : Expr} {d : D} {v : V} (ex : ExmOk X.K Z G c) (hc : Names X x (.ref (Z.cla c))) (he : ∀ (a : Addr) (pn : List (Addr × Obj)), PE (X.suite a pn) e (tC v)) (rd : ∀ H, RD Z H d v)
    (r : HsOk X Z W G hds hs) : HsOk X Z W G (.ExceptHandler (some (.Name x np)) none [.Return (some e) pos] p1 :: hds) ((c, .ret (.lit d)) :: hs) := by
  obtain ⟨l, hl, hr⟩ := r
  refine ⟨_, .plain hc (fun a oe cls dd pn _ _ => pss_one (ps_ret (he a _))) hl, fun D K Xf H x cls dd σ S τ kd kx er sr xr w => hs_step ex rfl xr w (fun w1 a na => ?_) fun w1 => hr D K Xf H x cls dd σ S τ kd kx er sr xr w1⟩
  exact kd.rt d v S H (TK.refl H) sr (rd H) w1
theorem hs_cnt {c : Nat} {x : Str} {np p1 : Pos} {hds : List ExceptHandler} {hs : List (Nat × Su)} (ex : ExmOk X.K Z G c) (hc : Names X x (.ref (Z.cla c))) (r : HsOk X Z W G hds hs) :
    HsOk X Z W G (.ExceptHandler (some (.Name x np)) none [.Continue pos] p1 :: hds) ((c, .cnt) :: hs) := by
  obtain ⟨l, hl, hr⟩ := r
  refine ⟨_, .plain hc (fun a oe cls dd pn _ _ => pss_one ps_continue) hl, fun D K Xf H x cls dd σ S τ kd kx er sr xr w => hs_step ex rfl xr w (fun w1 a na => ?_) fun w1 => hr D K Xf H x cls dd σ S τ kd kx er sr xr w1⟩
  exact kd.ct σ S τ H (TK.refl H) er sr w1
theorem hs_pass {c : Nat} {x : Str} {np p1 : Pos} {hds : List ExceptHandler} {hs : List (Nat × Su)} (ex : ExmOk X.K Z G c) (hc : Names X x (.ref (Z.cla c))) (r : HsOk X Z W G hds hs) :
    HsOk X Z W G (.ExceptHandler (some (.Name x np)) none [.Pass pos] p1 :: hds) ((c, .pass) :: hs) := by
  obtain ⟨l, hl, hr⟩ := r
  refine ⟨_, .plain hc (fun a oe cls dd pn _ _ => pss_one ps_pass) hl, fun D K Xf H x cls dd σ S τ kd kx er sr xr w => hs_step ex rfl xr w (fun w1 a na => ?_) fun w1 => hr D K Xf H x cls dd σ S τ kd kx er sr xr w1⟩
  exact kd.nx σ S τ H (TK.refl H) er sr w1
theorem hs_set {c i : Nat} {x y : Str} {np p1 p2 : Pos} {hds : List ExceptHandler} {hs : List (Nat × Su)} {e : Expr} {d : D} {v : V} (ex : ExmOk X.K Z G c) (hc : Names X x (.ref (Z.cla c))) (he : ∀ (a : Addr) (pn : List (Addr × Obj)), PE (X.suite a pn) e (tC v)) (rd : ∀ H, RD Z H d v)
    (hN : X.N.Nodup) (hi : X.N[i]? = some y) (hx : Loc X.env.scope y) (hf : X.fn y = true ∨ X.env.scope.names.lookup y = some .local) (hs' : swapsWith e (some (.Name y p2)) pos.line X.env = pure false)
    (r : HsOk X Z W G hds hs) : HsOk X Z W G (.ExceptHandler (some (.Name x np)) none [.Assign [.Name y p2] e pos] p1 :: hds) ((c, .set i d) :: hs) := by
  obtain ⟨l, hl, hr⟩ := r
  refine ⟨_, .plain hc (fun a oe cls dd pn _ _ => pss_one (ps_set (X := X.suite a ((a, oe) :: pn)) hN hi hx (he a _) hs' hf)) hl, fun D K Xf H x cls dd σ S τ kd kx er sr xr w => hs_step ex rfl xr w (fun w1 a na => ?_) fun w1 => hr D K Xf H x cls dd σ S τ kd kx er sr xr w1⟩
  exact kd.nx _ S _ H (TK.refl H) (er.set i (rd H)) sr w1
/-- e.f, e the exception that the suite holds -/
structure XfOk (K : PySem.W.Frag) (C : Addr) (f : Str) : Prop where
  ga : PySem.W.findIn K (.ref C) "__getattribute__" = some (some (.builtin "BaseException.__getattribute__"))
  gg : PySem.W.findIn K (.ref C) "__getattr__" = some none
  no : PySem.W.findIn K (.ref C) f = some none
  ex : PySem.W.subIn K (.ref C) (.type "BaseException") = some true
  hd : PySem.W.hasDictIn K C = true
def tXf (K : PySem.W.Frag) (a : Addr) (cls : Value) (d : Option Addr) (f : Str) (te : TE) : TE := fun σ H Q => te σ H fun x H1 => x = .ref a ∧ ∃ (C dd : Addr) (gs : List (Str × V)) (v : V), cls = .ref C ∧ XfOk K C f ∧ d = some dd ∧ H1 dd = some (.xd gs) ∧ gs.lookup f = some v ∧ Q v H1
theorem pe_xf {a : Addr} {oe : Obj} {cls : Value} {d : Option Addr} {pn : List (Addr × Obj)} {e : Expr} {te : TE} {f : Str} (hz : Zc cls d oe) (hf : ∃ vs, oe.data = .fields vs) (he : PE (X.suite a ((a, oe) :: pn)) e te)
    (hb : attributeBase e f X.env (eval e X.env) = eval e X.env) : PE (X.suite a ((a, oe) :: pn)) (.Attribute e f pos) (tXf X.K a cls d f te) := by
  refine ⟨fun pins s σ H Q I h => attr_of hb (thn (he.run pins s σ H _ I h) fun u s1 ⟨x, H1, I1, rx, ex, C, dd, gs, v, ec, T, ed, ea, lv, q⟩ => ?_)⟩
  subst ex ec ed
  obtain rfl : u = Value.ref a := rx
  obtain ⟨ha, _⟩ := I1.pin (a, oe) (List.mem_append_left _ List.mem_cons_self)
  obtain ⟨vs, hd⟩ := hf
  obtain ⟨mA, hns, hr⟩ := (I1.hok dd _ ea : ObjOk X.prog X.w H1 s1.heap dd (.xd gs))
  obtain ⟨od, ho, hl⟩ := lookIn_ns hns
  obtain ⟨u, hu, ru⟩ := RelO.some_of (v := v) (o := mA f) (by rw [← lv]; exact hr f)
  have J : PySem.W.InstAt s1.heap a oe C (some od) := by
    refine ⟨ha, hz.1, ?_, by rw [hz.2]; exact ho⟩
    unfold PySem.W.notCls
    rw [hd] <;> rfl
  exact HandSPX.exc_get I1.kIn J T.ga T.gg T.ex (PySem.W.findObj_own T.hd T.no rfl (by rw [hl, hu])) (handed_of ru) ⟨v, H1, I1.tok _, ru, q⟩
def XfsOk (K : PySem.W.Frag) (Z : Nm) (f : Nat) : Prop := f < Z.nf ∧ ∀ c, Z.nc ≤ c ∧ c < Z.nx → XfOk K (Z.cla c) (Z.fld f)
/-- the field's reading, at the exception in the suite -/
theorem xf_at {f i : Nat} {x : Xn} {cls : Value} {dd : Option Addr} {τ : St} {H : Hp} {a : Addr} {d : D} {Q : VK} (hK : Z.K = X.K) (xo : XfsOk X.K Z f) (xr : XR Z H x cls dd) (hi : i < τ.length) (e : fget x.fs f = some d) (q : ∀ v, RD Z H d v → Q v H) :
    tXf X.K a cls dd (Z.fld f) (tVar i) (τ.set i (some (.ref a))) H Q := by
  obtain ⟨cn, hc, hr⟩ := xr
  cases dd with
  | none => dsimp only at hr; rw [hr] at e; cases e
  | some b =>
    obtain ⟨gs, hb, rf⟩ := hr
    obtain ⟨v, hv, rv⟩ := rf.get f xo.1 e
    exact ⟨_, List.getElem?_set_self hi, rfl, _, b, gs, v, hc, xo.2 x.c cn, rfl, hb, hv, q v rv⟩
theorem hs_exf {c i f : Nat} {x n : Str} {np p1 p2 p3 : Pos} {hds : List ExceptHandler} {hs : List (Nat × Su)} {fx : Str} (hK : Z.K = X.K) (ex : ExmOk X.K Z G c) (hc : Names X x (.ref (Z.cla c))) (hN : X.N.Nodup) (hi : X.N[i]? = some n) (hln : X.env.kindOf n = some .local)
    (hv : Vis X.env.scope n) (hd : (n == ("__debug__" : Str)) = false) (hcd : (n == ("__classdict__" : Str)) = false) (hfx : fx = Z.fld f) (xo : XfsOk X.K Z f) (hb : attributeBase (.Name n p2) fx X.env (eval (.Name n p2) X.env) = eval (.Name n p2) X.env)
    (r : HsOk X Z W G hds hs) : HsOk X Z W G (.ExceptHandler (some (.Name x np)) (some n) [.Return (some (.Attribute (.Name n p2) fx p3)) pos] p1 :: hds) ((c, .ret (.exf i f)) :: hs) := by
  subst hfx
  obtain ⟨l, hl, hr⟩ := r
  refine ⟨_, .named hN hi hln hc (fun a oe cls dd pn hz hf => pss_one (ps_ret (pe_xf hz hf (pe_var (X := X.suite a ((a, oe) :: pn)) hi hv hd hcd) hb))) hl, fun D K Xf H x cls dd σ S τ kd kx er sr xr w => hs_step ex rfl xr w (fun w1 a na => ?_) fun w1 => hr D K Xf H x cls dd σ S τ kd kx er sr xr w1⟩
  obtain ⟨hil, d, e, w1⟩ := (w1 : i < σ.length ∧ ∃ d, fget x.fs f = some d ∧ K.rt d S)
  exact xf_at hK xo xr (by rw [er.1]; exact hil) e fun v rv => kd.rt d v S H (TK.refl H) sr rv w1
theorem hs_exf2 {c i f g k2 : Nat} {x n : Str} {np p1 p2 p3 p4 p5 p6 : Pos} {hds : List ExceptHandler} {hs : List (Nat × Su)} {fx gx : Str} (hK : Z.K = X.K) (ex : ExmOk X.K Z G c) (hc : Names X x (.ref (Z.cla c))) (hN : X.N.Nodup) (hi : X.N[i]? = some n) (hln : X.env.kindOf n = some .local)
    (hv : Vis X.env.scope n) (hd : (n == ("__debug__" : Str)) = false) (hcd : (n == ("__classdict__" : Str)) = false) (hfx : fx = Z.fld f) (hgx : gx = Z.fld g) (xo : XfsOk X.K Z f) (xo2 : XfsOk X.K Z g) (hb : attributeBase (.Name n p2) fx X.env (eval (.Name n p2) X.env) = eval (.Name n p2) X.env)
    (hb2 : attributeBase (.Name n p4) gx X.env (eval (.Name n p4) X.env) = eval (.Name n p4) X.env) (hs1 : starEach [.Attribute (.Name n p2) fx p3, .Attribute (.Name n p4) gx p5] X.env = (false, eval (.Attribute (.Name n p2) fx p3) X.env) :: starEach [.Attribute (.Name n p4) gx p5] X.env)
    (hs2 : starEach [.Attribute (.Name n p4) gx p5] X.env = (false, eval (.Attribute (.Name n p4) gx p5) X.env) :: starEach [] X.env)
    (r : HsOk X Z W G hds hs) : HsOk X Z W G (.ExceptHandler (some (.Name x np)) (some n) [.Return (some (.Tuple [.Attribute (.Name n p2) fx p3, .Attribute (.Name n p4) gx p5] k2 p6)) pos] p1 :: hds) ((c, .ret (.exf2 i f g)) :: hs) := by
  subst hfx hgx
  obtain ⟨l, hl, hr⟩ := r
  refine ⟨_, .named hN hi hln hc (fun a oe cls dd pn hz hf => pss_one (ps_ret (pe_tup (pa_cons (pe_xf hz hf (pe_var (X := X.suite a ((a, oe) :: pn)) hi hv hd hcd) hb) (pa_cons (pe_xf hz hf (pe_var (X := X.suite a ((a, oe) :: pn)) hi hv hd hcd) hb2) pa_nil hs2) hs1)))) hl, fun D K Xf H x cls dd σ S τ kd kx er sr xr w => hs_step ex rfl xr w (fun w1 a na => ?_) fun w1 => hr D K Xf H x cls dd σ S τ kd kx er sr xr w1⟩
  obtain ⟨hil, d, d2, e, e2, w1⟩ := (w1 : i < σ.length ∧ ∃ d d2, fget x.fs f = some d ∧ fget x.fs g = some d2 ∧ K.rt (.tup [d, d2]) S)
  have hil' : i < τ.length := by rw [er.1]; exact hil
  dsimp only [tRet, tTup, tCons, tNil, Dsl, σsl]
  refine xf_at hK xo xr hil' e fun v rv => ?_
  refine xf_at hK xo2 xr hil' e2 fun v2 rv2 => ?_
  refine ⟨by show 2 ≤ sizeLine; rw [sizeLine_eq]; omega, fun p hp => ?_⟩
  exact kd.rt _ _ S _ (TK.new hp) (sr.new hp) (.tup (.inl upd_same) (.cons (rv.keep (TK.new hp)) (.cons (rv2.keep (TK.new hp)) .nil))) w1
theorem ss_try {body : List Stmt} {h₀ : ExceptHandler} {hds : List ExceptHandler} {hs : List (Nat × Su)} {wb : WS0} (hst : X.stack = X.env :: X.outer) (hf : X.env.frame = some X.env.locals) (tk : Takes X W)
    (hb : ∀ (W' : WX) (pn : List (Addr × Obj)) (xe : Value → Shared → Prop), Takes (X.tr pn xe) W' → PassesOwn (model X.prog X.w) X.A X.env xe → SSs (X.tr pn xe) Z W' body wb) (hh : HsOk X Z W G (h₀ :: hds) hs) :
    SS X Z W (.Try body (h₀ :: hds) [] [] pos) (fun K Xf σ S => wb K (fun x σ' S' => tryW G hs x K Xf σ' S') σ S) := by
  obtain ⟨l, hl, hr⟩ := hh
  refine PS.imp (ps_tryH hst hf tk (tb := fun W' => TSx Z W' wb) hb hl) fun D τ H ⟨σ, S, K, Xf, er, sr, w, kd, kx⟩ => ?_
  exact ⟨σ, S, K, _, er, sr, w, kd, fun x cls dd σ' S' τ' H' k' er' sr' xr' w' => hr D K Xf H' x cls dd σ' S' τ' (kd.keep k') (kx.keep k') er' sr' xr' w'⟩
end
end Mini
end L2
/-! Mini, part M: comprehensions, enumerate, zip -/
namespace L2
namespace Mini
open PySem PySem.Spec PyProof.Rows
/-! ### slots wiped -/
theorem wipe_get (τ : St) (j : Nat) : ∀ vs : List Nat, (wipe τ vs)[j]? = if j ∈ vs then (if j < τ.length then some none else none) else τ[j]?
  | [] => by simp [wipe]
  | v :: vs => by
    unfold wipe
    by_cases h : v = j
    · subst h
      by_cases hl : v < τ.length
      · rw [List.getElem?_set_self (by rw [wipe_length]; exact hl)]; simp [hl]
      · rw [List.getElem?_eq_none (by rw [List.length_set, wipe_length]; omega)]; simp [hl]
    · rw [List.getElem?_set_ne h, wipe_get τ j vs]
      have : j ≠ v := fun e => h e.symm
      simp [this]
theorem wipe_put {τ : St} {i : Nat} {x : Option V} {vs : List Nat} (h : i ∈ vs) : wipe (τ.set i x) vs = wipe τ vs := by
  apply List.ext_getElem?
  intro j
  rw [wipe_get, wipe_get, List.length_set]
  by_cases hj : j ∈ vs
  · rw [if_pos hj, if_pos hj]
  · rw [if_neg hj, if_neg hj, List.getElem?_set_ne (fun e => hj (by rw [← e]; exact h))]
theorem wipe_wipe {τ : St} {vs : List Nat} : wipe (wipe τ vs) vs = wipe τ vs := by
  apply List.ext_getElem?
  intro j
  rw [wipe_get, wipe_get, wipe_length]
  by_cases hj : j ∈ vs
  · rw [if_pos hj, if_pos hj]
  · rw [if_neg hj, if_neg hj]
def wipeE (σ : Env) : List Nat → Env
  | [] => σ
  | v :: vs => (wipeE σ vs).set v none
theorem wipeE_length (σ : Env) : ∀ vs : List Nat, (wipeE σ vs).length = σ.length
  | [] => rfl
  | v :: vs => by unfold wipeE; rw [List.length_set, wipeE_length σ vs]
theorem wipeE_ne (σ : Env) {j : Nat} : ∀ {vs : List Nat}, j ∉ vs → (wipeE σ vs)[j]? = σ[j]?
  | [], _ => rfl
  | v :: vs, h => by
    have h1 : v ≠ j := fun e => h (by rw [e]; exact List.mem_cons_self)
    unfold wipeE
    rw [List.getElem?_set_ne h1, wipeE_ne σ fun z => h (List.mem_cons_of_mem _ z)]
theorem wipeE_in (σ : Env) {j : Nat} : ∀ {vs : List Nat}, j ∈ vs → (wipeE σ vs).get j = none
  | [], h => by cases h
  | v :: vs, h => by
    unfold wipeE Env.get
    by_cases e : v = j
    · subst e
      by_cases hl : v < (wipeE σ vs).length
      · rw [List.getElem?_set_self hl]
      · rw [List.getElem?_eq_none (by rw [List.length_set]; omega)]
    · rw [List.getElem?_set_ne e]
      rcases List.mem_cons.mp h with q | q
      · exact absurd q.symm e
      · exact wipeE_in σ q
theorem ER.wipe {Z : Nm} {H : Hp} {σ : Env} {τ : St} (e : ER Z H σ τ) (vs : List Nat) : ER Z H (wipeE σ vs) (L2.wipe τ vs) := by
  refine ⟨by rw [wipe_length, wipeE_length]; exact e.1, fun i d h => ?_⟩
  by_cases hi : i ∈ vs
  · rw [wipeE_in σ hi] at h; cases h
  · obtain ⟨v, h1, h2⟩ := e.2 i d (by unfold Env.get at h ⊢; rw [wipeE_ne σ hi] at h; exact h)
    exact ⟨v, by rw [wipe_get, if_neg hi]; exact h1, h2⟩
def Tg.slots : Tg → List Nat
  | .nm i => [i]
  | .tp is => is
theorem foldSet_eq : ∀ (is : List Nat) (ds : List D) (σ1 σ2 : Env), is.length = ds.length → σ1.length = σ2.length → (∀ j, j ∉ is → σ1[j]? = σ2[j]?) →
    (is.zip ds).foldl (fun (s : Env) (p : Nat × D) => s.set p.1 (some p.2)) σ1 = (is.zip ds).foldl (fun (s : Env) (p : Nat × D) => s.set p.1 (some p.2)) σ2
  | [], [], σ1, σ2, _, hl, h => List.ext_getElem? fun j => h j (by simp)
  | i :: is, d :: ds, σ1, σ2, he, hl, h => by
    rw [List.zip_cons_cons, List.foldl_cons, List.foldl_cons]
    refine foldSet_eq is ds _ _ (Nat.succ.inj he) (by simp [hl]) fun j hj => ?_
    by_cases e : i = j
    · subst e
      by_cases q : i < σ1.length
      · rw [List.getElem?_set_self q, List.getElem?_set_self (by omega)]
      · rw [List.getElem?_eq_none (by simpa using q), List.getElem?_eq_none (by rw [List.length_set]; omega)]
    · rw [List.getElem?_set_ne e, List.getElem?_set_ne e]
      exact h j (by simp only [List.mem_cons, not_or]; exact ⟨fun z => e z.symm, hj⟩)
  | [], _ :: _, _, _, he, _, _ => by cases he
  | _ :: _, [], _, _, he, _, _ => by cases he
theorem tgW_wipe {t : Tg} {d : D} {σ σ' : Env} (h : tgW t d σ = some σ') : tgW t d (wipeE σ t.slots) = some σ' := by
  cases t with
  | nm i =>
    cases h
    show some _ = some _
    refine congrArg some (List.ext_getElem? fun j => ?_)
    by_cases e : i = j
    · subst e
      by_cases q : i < σ.length
      · rw [List.getElem?_set_self q, List.getElem?_set_self (by rw [wipeE_length]; exact q)]
      · rw [List.getElem?_eq_none (by rw [List.length_set, wipeE_length]; omega), List.getElem?_eq_none (by rw [List.length_set]; omega)]
    · rw [List.getElem?_set_ne e, List.getElem?_set_ne e, wipeE_ne σ (by simp [Tg.slots]; exact fun z => e z.symm)]
  | tp is =>
    unfold tgW at h ⊢
    dsimp only at h ⊢
    split at h
    · rename_i ds
      split at h
      · rename_i hl
        cases h
        rw [if_pos hl]
        exact congrArg some (foldSet_eq is ds _ _ hl.symm (wipeE_length σ _) fun j hj => wipeE_ne σ hj)
      · cases h
    · cases h
/-! ### targets that leave the other slots -/
theorem gIs_okw {Z : Nm} {Q : St → Hp → Prop} {H : Hp} : ∀ {is : List Nat} {ds : List D} {vs : List V} {σ : Env} {τ : St}, RDs Z H ds vs → ds.length = is.length → ER Z H σ τ →
    (∀ τ', ER Z H ((is.zip ds).foldl (fun s p => s.set p.1 (some p.2)) σ) τ' → (∀ ws, (∀ i ∈ is, i ∈ ws) → wipe τ' ws = wipe τ ws) → Q τ' H) → gIs is vs τ H Q
  | [], [], _, σ, τ, rs, _, er, q => by cases rs; exact ⟨rfl, q τ er fun _ _ => rfl⟩
  | i :: is, d :: ds, _, σ, τ, rs, hl, er, q => by
    cases rs with
    | cons r rs => exact ⟨_, _, rfl, gIs_okw rs (Nat.succ.inj hl) (er.set i r) fun τ' e h => q τ' e fun ws hw => (h ws fun j hj => hw j (List.mem_cons_of_mem _ hj)).trans (wipe_put (hw i List.mem_cons_self))⟩
  | [], _ :: _, _, _, _, _, hl, _, _ => by cases hl
  | _ :: _, [], _, _, _, _, hl, _, _ => by cases hl
theorem gTg_okw {X : Cx} {Z : Nm} {Q : St → Hp → Prop} {H : Hp} {t : Tg} {d : D} {v : V} {σ σ' : Env} {τ : St} (hK : Z.K = X.K) (h : tgW t d σ = some σ') (r : RD Z H d v) (er : ER Z H σ τ) (q : ∀ τ', ER Z H σ' τ' → wipe τ' t.slots = wipe τ t.slots → Q τ' H) : gTg X.K t v τ H Q := by
  cases t with
  | nm i => cases h; exact q _ (er.set i r) (wipe_put (by simp [Tg.slots]))
  | tp is =>
    unfold tgW at h
    dsimp only at h
    split at h
    · rename_i ds
      split at h
      · rename_i hl
        cases h
        cases r with
        | tup t rs => exact ⟨_, _, rfl, by rw [← hK]; exact t.sq, by rw [← rs.length]; exact hl, gIs_okw rs hl er fun τ' e hw => q τ' e (hw _ fun _ h => h)⟩
      · cases h
    · cases h
abbrev W0 : WX := fun _ _ _ _ => False
section
variable {X : Cx} {Z : Nm} {G : Gam} {k : Nat} {W : WX} {a₀ b₀ c₀ e₀ tg : Expr} {es₀ : List Expr} {wa wb wc : WE0} {ws : Env → Sto → (List D → Sto → Prop) → QX → Prop} {pos apos p : Pos}
/-- the tests of a comprehension -/
def SC (X : Cx) (Z : Nm) (ifs : List Expr) (w : Env → Sto → (Bool → Sto → Prop) → Prop) : Prop := PTs X ifs (TTx Z W0 fun σ S Q _ => w σ S Q)
theorem sc_none : SC X Z [] (fun _ S Q => Q true S) := ⟨fun pins s τ H Q I ⟨σ, S, Qa, E, er, sr, w, q, qe⟩ => (pts_nil (X := X)).run pins s τ H Q I (q true S H (TK.refl H) sr w)⟩
theorem sc_some (h : SEt X Z W0 a₀ (toT wa)) : SC X Z [a₀] (fun σ S Q => wa σ S (fun x S1 => match tru S1 x with | some r => Q r S1 | none => False) (fun _ _ => False)) :=
  ⟨fun pins s τ H Q I ⟨σ, S, Qa, E, er, sr, w, q, qe⟩ => (pts_one h).run pins s τ H Q I ⟨σ, S, Qa, fun _ _ => False, er, sr, w, q, fun _ _ _ _ _ _ _ _ z => z⟩⟩
theorem lc_ok {wi : Env → Sto → (List D → (Sto → Prop) → Sto → Prop) → QX → Prop} {wt : Env → Sto → (Bool → Sto → Prop) → Prop} {we : WE0} {t : Tg} {τ : St} {H : Hp} {Q : VK} (hK : Z.K = X.K)
    (h : TEx Z W (fun σ S Q E => wi σ S (fun ds live S1 => ∀ p, S1 p = none → goW live (fun d K S2 => match tgW t d σ with | some σ' => wt σ' S2 (fun ok S3 => if ok then we σ' S3 (fun y S4 => ∃ acc, S4 p = some (.lst acc) ∧ acc.length < sizeLine ∧ K (S4.upd p (.lst (acc ++ [y])))) (fun _ _ => False) else K S3) | none => False) ds (S1.upd p (.lst [])) (fun S5 => Q (.ref p) S5)) E) τ H Q) :
    tLc (TIx Z W wi) (gTg X.K t) (TTx Z W0 fun σ S Q _ => wt σ S Q) (TEx Z W0 we) t.slots τ H Q := by
  obtain ⟨σ, S, Qa, E, er, sr, w, q, qe⟩ := h
  refine ⟨σ, S, _, E, er, sr, w, fun ds live S0 H0 J k0 sr0 wk w0 D hD => ?_, qe⟩
  have w1 := w0 D (sr0.free hD)
  have tkD : TK H0 (upd H0 D (.lst [])) := TK.new hD
  refine ⟨fun i m H' => m = ds.length - i ∧ i ≤ ds.length ∧ TK (upd H0 D (.lst [])) H' ∧ ∃ S, SR Z S H' ∧ goW live (fun d K S2 => match tgW t d σ with | some σ' => wt σ' S2 (fun ok S3 => if ok then we σ' S3 (fun y S4 => ∃ acc, S4 D = some (.lst acc) ∧ acc.length < sizeLine ∧ K (S4.upd D (.lst (acc ++ [y])))) (fun _ _ => False) else K S3) | none => False) (ds.drop i) S (fun S5 => Qa (.ref D) S5),
    ⟨_, rfl, Nat.zero_le _, TK.refl _, _, sr0.put (c := .lst []) tkD ⟨[], upd_same, .nil⟩, w1⟩, ?_⟩
  rintro i m H1 ⟨rfl, hi, k1, S1, sr1, w1⟩
  have kk1 := tkD.trans k1
  by_cases hlt : i < ds.length
  · rw [List.drop_eq_getElem_cons hlt] at w1
    obtain ⟨lv, w1⟩ := w1
    refine .inr ⟨wk.go i S1 H1 kk1 sr1 lv hlt, fun H' => TK (upd H0 D (.lst [])) H' ∧ ∃ S, SR Z S H' ∧ goW live (fun d K S2 => match tgW t d σ with | some σ' => wt σ' S2 (fun ok S3 => if ok then we σ' S3 (fun y S4 => ∃ acc, S4 D = some (.lst acc) ∧ acc.length < sizeLine ∧ K (S4.upd D (.lst (acc ++ [y])))) (fun _ _ => False) else K S3) | none => False) (ds.drop (i + 1)) S (fun S5 => Qa (.ref D) S5),
      fun H' h => ⟨_, by omega, rfl, hlt, h.1, h.2⟩, fun x H2 y => ?_⟩
    obtain ⟨k2, sm, rx⟩ := wk.yld i S1 H1 x H2 _ kk1 sr1 lv (List.getElem?_eq_getElem hlt) y
    dsimp only at w1
    split at w1
    · rename_i σ2 e
      have er2 : ER Z H2 σ τ := er.keep ((k0.trans kk1).trans k2)
      refine gTg_okw hK (tgW_wipe e) rx (er2.wipe t.slots) fun τ2 er3 hw => ⟨hw.trans wipe_wipe, ?_⟩
      refine ⟨σ2, S1, _, _, er3, sr1.same sm, w1, fun ok S3 H3 k3 sr3 w3 => ?_, fun _ _ _ _ _ _ _ _ z => z⟩
      cases ok with
      | false => exact ⟨(k1.trans k2).trans k3, S3, sr3, w3⟩
      | true =>
        refine ⟨σ2, S3, _, _, er3.keep k3, sr3, w3, fun dy yv S4 H4 k4 sr4 ry ⟨acc, ea, hl, w4⟩ => ?_, fun _ _ _ _ _ _ _ _ z => z⟩
        obtain ⟨vs, hq, rs⟩ := lstAt sr4 ea
        have tk : TK H4 (upd H4 D (.lst (vs ++ [yv]))) := TK.mut hq True.intro
        refine ⟨vs, hq, by rw [← rs.length]; exact hl, ((((k1.trans k2).trans k3).trans k4).trans tk), _, sr4.put (c := .lst (acc ++ [dy])) tk ⟨_, upd_same, (rs.append (.cons ry .nil)).keep tk⟩, w4⟩
    · exact w1.elim
  · have e : i = ds.length := by omega
    subst e
    rw [List.drop_length] at w1
    exact .inl ⟨wk.stop S1 H1 kk1 sr1 w1.1, q (.ref D) (.ref D) S1 H1 (k0.trans kk1) sr1 .ref w1.2⟩
theorem se_lc {elt iter : Expr} {ifs : List Expr} {scope : Scope} {own : List (Str × Nat)} {wi : Env → Sto → (List D → (Sto → Prop) → Sto → Prop) → QX → Prop} {wt : Env → Sto → (Bool → Sto → Prop) → Prop} {we : WE0} {t : Tg} (hK : Z.K = X.K) (hc : X.calm = true) (hN : X.N.Nodup)
    (hi : SI X Z W tg iter wi) (ok : BlkOk X.N X.env.scope scope own) (ho : own.map (·.2) = t.slots)
    (hg : ∀ (s : Shared) (H : Hp) (C : Addr) (cl : List (Str × Addr)) (fp : List Addr), PG (X.blk s H scope (compEnvC scope cl C X.env) fp) tg (gTg X.K t)) (ht : ∀ (s : Shared) (H : Hp) (C : Addr) (cl : List (Str × Addr)) (fp : List Addr), SC (X.blk s H scope (compEnvC scope cl C X.env) fp) Z ifs wt)
    (he : ∀ (s : Shared) (H : Hp) (C : Addr) (cl : List (Str × Addr)) (fp : List Addr), SE (X.blk s H scope (compEnvC scope cl C X.env) fp) Z W0 elt we) (hs : ∀ x, foldedSetIterable iter X.env x = pure x) :
    SE X Z W (.ListComp elt [⟨tg, iter, ifs, 0⟩] scope pos) (fun σ S Q E => wi σ S (fun ds live S1 => ∀ p, S1 p = none → goW live (fun d K S2 => match tgW t d σ with | some σ' => wt σ' S2 (fun ok S3 => if ok then we σ' S3 (fun y S4 => ∃ acc, S4 p = some (.lst acc) ∧ acc.length < sizeLine ∧ K (S4.upd p (.lst (acc ++ [y])))) (fun _ _ => False) else K S3) | none => False) ds (S1.upd p (.lst [])) (fun S5 => Q (.ref p) S5)) E) :=
  PE.imp (pe_lc hc hN hi ok hg ht he hs) fun τ H Q h => by rw [ho]; exact lc_ok hK h
theorem ss_setLc {i : Nat} {y : Str} {elt iter : Expr} {ifs : List Expr} {scope : Scope} {own : List (Str × Nat)} {wi : Env → Sto → (List D → (Sto → Prop) → Sto → Prop) → QX → Prop} {wt : Env → Sto → (Bool → Sto → Prop) → Prop} {we : WE0} {t : Tg} (hK : Z.K = X.K) (hc : X.calm = true) (hN : X.N.Nodup)
    (hy : X.N[i]? = some y) (hyl : X.env.scope.names.lookup y = some .local) (hsw : swapsWith (.ListComp elt [⟨tg, iter, ifs, 0⟩] scope pos) (some (.Name y p)) apos.line X.env = pure true)
    (hi : SI X Z W tg iter wi) (ok : BlkOk X.N X.env.scope scope own) (ho : own.map (·.2) = t.slots)
    (hg : ∀ (s : Shared) (H : Hp) (C : Addr) (cl : List (Str × Addr)) (fp : List Addr), PG (X.blk s H scope (compEnvC scope cl C X.env) fp) tg (gTg X.K t)) (ht : ∀ (s : Shared) (H : Hp) (C : Addr) (cl : List (Str × Addr)) (fp : List Addr), SC (X.blk s H scope (compEnvC scope cl C X.env) fp) Z ifs wt)
    (he : ∀ (s : Shared) (H : Hp) (C : Addr) (cl : List (Str × Addr)) (fp : List Addr), SE (X.blk s H scope (compEnvC scope cl C X.env) fp) Z W0 elt we) (hs : ∀ x, foldedSetIterable iter X.env x = pure x) :
    SS X Z W (.Assign [.Name y p] (.ListComp elt [⟨tg, iter, ifs, 0⟩] scope pos) apos) (fun K Xf σ S => (fun σ S Q E => wi σ S (fun ds live S1 => ∀ p, S1 p = none → goW live (fun d K S2 => match tgW t d σ with | some σ' => wt σ' S2 (fun ok S3 => if ok then we σ' S3 (fun y S4 => ∃ acc, S4 p = some (.lst acc) ∧ acc.length < sizeLine ∧ K (S4.upd p (.lst (acc ++ [y])))) (fun _ _ => False) else K S3) | none => False) ds (S1.upd p (.lst [])) (fun S5 => Q (.ref p) S5)) E) σ S (fun d S1 => K.nx (σ.set i (some d)) S1) (fun x S1 => Xf x σ S1)) :=
  PS.imp (ps_setLc hc hN hy hyl hsw hi ok hg ht he hs) fun D τ H ⟨σ, S, K, Xf, er, sr, w, kd, kx⟩ => by
    rw [ho]
    refine lc_ok hK ⟨σ, S, fun d S1 => K.nx (σ.set i (some d)) S1, _, er, sr, w, fun d v S1 H1 k1 sr1 r w1 => ?_, kx.kx er⟩
    exact kd.nx _ S1 _ H1 k1 ((er.keep k1).set i r) sr1 w1
/-! ### enumerate, zip -/
theorem wlk_enum {H : Hp} {S : Sto} {a : Addr} {ds : List D} (hK : Z.K = X.K) (e : rd S a = some ds) : Wlk Z H (Ite X.K a) (enumD ds) (liveL a ds) where
  go := fun i S H k sr l hi => by
    obtain ⟨vs, sq, rs⟩ := rdAt (K := X.K) sr l
    have hl := rs.length
    have hi' : i < vs.length := by unfold enumD at hi; simp at hi; omega
    exact ⟨vs, vs[i]'hi', sq, by simp⟩
  stop := fun S H k sr l => by
    obtain ⟨vs, sq, rs⟩ := rdAt (K := X.K) sr l
    exact ⟨vs, sq, by rw [← rs.length]; unfold enumD; simp⟩
  yld := fun i S H x H' d k sr l hd y => by
    obtain ⟨T, x0, rfl, hT, rfl, y⟩ := y
    obtain ⟨vs, sq, rs⟩ := rdAt (K := X.K) sr l
    have hi : i < ds.length := by
      have := (List.getElem?_eq_some_iff.mp hd).1
      unfold enumD at this; simp at this; omega
    have hd' : d = .tup [.int i, ds[i]] := by
      unfold enumD at hd
      rw [List.getElem?_map, List.getElem?_zip_eq_some (z := (i, ds[i])) |>.mpr ⟨by simp [hi], by simp⟩] at hd
      exact (Option.some.inj hd).symm
    subst hd'
    obtain ⟨v, h1, h2⟩ := rs.get (List.getElem?_eq_getElem hi)
    rw [y vs sq] at h1
    cases h1
    exact ⟨TK.new hT, new_same hT, .tup (.inl upd_same) (.cons .int (.cons (h2.keep (TK.new hT)) .nil))⟩
theorem si_enum {elts : List Expr} {kk : Nat} {tp : Pos} (hK : Z.K = X.K) (hg : Gl X "enumerate") (hm : X.mg "enumerate" = none) (ha : SE X Z W a₀ wa) (hs : starEach [a₀] X.env = [(false, eval a₀ X.env)]) (hs2 : starEach [a₀] X.env = (false, eval a₀ X.env) :: starEach [] X.env) :
    SI X Z W (.Tuple elts kk tp) (.Call (.Name "enumerate" p) [a₀] [] pos) (fun σ S R E => wa σ S (fun x S1 => lsW x S1 (fun ds l => R (enumD ds) l S1)) E) :=
  PI.imp (pi_enum hg hm (pa_cons ha pa_nil hs2) hs) fun τ H R ⟨σ, S, Ra, E, er, sr, w, r, qe⟩ => by
    refine ⟨σ, S, _, E, er, sr, w, fun d v S1 H1 k1 sr1 rd1 w1 => ?_, qe⟩
    unfold lsW at w1
    dsimp only at w1
    split at w1
    · rename_i a
      cases rd1
      obtain ⟨ds, e, w1⟩ := w1
      obtain ⟨vs, sq, rs⟩ := rdAt (K := X.K) sr1 e
      exact ⟨a, vs, rfl, sq, r _ _ _ _ _ k1 sr1 (wlk_enum hK e) w1⟩
    · exact w1.elim
theorem wlk_zip {H : Hp} {a b : Addr} {ds es : List D} (hK : Z.K = X.K) : Wlk Z H (Itz X.K a b) (zipD ds es) (fun S' => liveL a ds S' ∧ liveL b es S') where
  go := fun i S H k sr l hi => by
    obtain ⟨vs, sq, rs⟩ := rdAt (K := X.K) sr l.1
    obtain ⟨us, sq2, rs2⟩ := rdAt (K := X.K) sr l.2
    have hl := rs.length
    have hl2 := rs2.length
    have hi' : i < vs.length ∧ i < us.length := by unfold zipD at hi; simp at hi; omega
    exact ⟨vs, us, vs[i]'hi'.1, us[i]'hi'.2, sq, sq2, by simp, by simp⟩
  stop := fun S H k sr l => by
    obtain ⟨vs, sq, rs⟩ := rdAt (K := X.K) sr l.1
    obtain ⟨us, sq2, rs2⟩ := rdAt (K := X.K) sr l.2
    have hl := rs.length
    have hl2 := rs2.length
    exact ⟨vs, us, sq, sq2, by unfold zipD; simp; omega⟩
  yld := fun i S H x H' d k sr l hd y => by
    obtain ⟨T, x0, y0, rfl, hT, rfl, yx, yy⟩ := y
    obtain ⟨vs, sq, rs⟩ := rdAt (K := X.K) sr l.1
    obtain ⟨us, sq2, rs2⟩ := rdAt (K := X.K) sr l.2
    unfold zipD at hd
    rw [List.getElem?_map] at hd
    cases e : (ds.zip es)[i]? with
    | none => rw [e] at hd; cases hd
    | some pr =>
      rw [e] at hd
      cases hd
      obtain ⟨e1, e2⟩ := List.getElem?_zip_eq_some.mp e
      obtain ⟨v, h1, h2⟩ := rs.get e1
      obtain ⟨u, h3, h4⟩ := rs2.get e2
      rw [yx vs sq] at h1
      rw [yy us sq2] at h3
      cases h1; cases h3
      exact ⟨TK.new hT, new_same hT, .tup (.inl upd_same) (.cons (h2.keep (TK.new hT)) (.cons (h4.keep (TK.new hT)) .nil))⟩
theorem si_zip {elts : List Expr} {kk : Nat} {tp : Pos} (hK : Z.K = X.K) (hg : Gl X "zip") (hm : X.mg "zip" = none) (ha : SE X Z W a₀ wa) (hb : SE X Z W b₀ wb) (hs : starEach [a₀, b₀] X.env = (false, eval a₀ X.env) :: starEach [b₀] X.env) (hs2 : starEach [b₀] X.env = (false, eval b₀ X.env) :: starEach [] X.env)
    (hpl : (backTo pos (starEach [b₀] X.env)).any (·.1) = false) :
    SI X Z W (.Tuple elts kk tp) (.Call (.Name "zip" p) [a₀, b₀] [] pos) (fun σ S R E => wa σ S (fun x S1 => wb σ S1 (fun y S2 => lsW x S2 (fun ds l => lsW y S2 (fun es l2 => R (zipD ds es) (fun S' => l S' ∧ l2 S') S2))) E) E) :=
  PI.imp (pi_zip hg hm (pa_cons ha (pa_cons hb pa_nil hs2) hs) hs hpl) fun τ H R ⟨σ, S, Ra, E, er, sr, w, r, qe⟩ => by
    refine two_ok (R := fun x y H2 => ∃ (a b : Addr) (xs ys : List V), ([x, y] : List V) = [.ref a, .ref b] ∧ SqL X.K H2 a xs ∧ SqL X.K H2 b ys ∧ R (Itz X.K a b) H2) er sr w qe fun {S2 H2 x y v u} k sr' rx ry h => ?_
    unfold lsW at h
    split at h
    · rename_i a
      obtain ⟨ds, e1, h⟩ := h
      split at h
      · rename_i b
        obtain ⟨es, e2, h⟩ := h
        cases rx; cases ry
        obtain ⟨vs, sq, rs⟩ := rdAt (K := X.K) sr' e1
        obtain ⟨us, sq2, rs2⟩ := rdAt (K := X.K) sr' e2
        exact ⟨a, b, vs, us, rfl, sq, sq2, r _ _ _ _ _ k sr' (wlk_zip hK) h⟩
      · exact h.elim
    · exact h.elim
/-! ### dict displays, dict comprehensions -/
/-- the pairs of a display -/
def SPs (X : Cx) (Z : Nm) (W : WX) (pos : Pos) (keys : List (Option Expr)) (vals : List Expr) (w : Env → Sto → (List (Ky × D) → Sto → Prop) → QX → Prop) : Prop :=
  ∀ (pins : List (Addr × Obj)) (s : Shared) (τ : St) (H : Hp) (Q : List (Key × V) → Hp → Prop), Inv X pins τ H s → (∃ σ S Qa E, ER Z H σ τ ∧ SR Z S H ∧ w σ S Qa E ∧ (∀ kvs gs S' H', TK H H' → SR Z S' H' → RK Z H' kvs gs → Qa kvs S' → Q gs H') ∧ Kx Z W τ H E) →
    wpAny (model X.prog X.w) X.A (evalPairs (pairTrees keys vals X.env pos)) (fun vs s' => ∃ gs H', Inv X pins τ H' s' ∧ VV (gs.map fun (kv : Key × V) => (kV kv.1, kv.2)) vs ∧ Q gs H') X.xe s
theorem sp_nil : SPs X Z W pos [] [] (fun _ S Q _ => Q [] S) := fun pins s τ H Q I ⟨σ, S, Qa, E, er, sr, w, q, qe⟩ => pairTrees_nil_walk ⟨[], H, I, .nil, q [] [] S H (TK.refl H) sr .nil w⟩
theorem kyOf_rd {H : Hp} {d : D} {v : V} {ky : Ky} (r : RD Z H d v) (h : kyOf d = some ky) : v = kV (kyS ky) := by
  cases d <;> simp only [kyOf] at h <;> first | (cases h; cases r; rfl) | cases h
theorem sp_cons {ks : List (Option Expr)} {vs : List Expr} {wr : Env → Sto → (List (Ky × D) → Sto → Prop) → QX → Prop} (hk : SE X Z W a₀ wa) (hv : SE X Z W b₀ wb) (hr : SPs X Z W pos ks vs wr) :
    SPs X Z W pos (some a₀ :: ks) (b₀ :: vs) (fun σ S Q E => wa σ S (fun x S1 => wb σ S1 (fun y S2 => wr σ S2 (fun kvs S3 => ∃ ky, kyOf x = some ky ∧ Q ((ky, y) :: kvs) S3) E) E) E) := fun pins s τ H Q I ⟨σ, S, Qa, E, er, sr, w, q, qe⟩ => by
  refine pairTrees_cons_walk (thn (hk.run pins s τ H (fun v H1 => TK H H1 ∧ ∃ d S1, SR Z S1 H1 ∧ RD Z H1 d v ∧ wb σ S1 (fun y S2 => wr σ S2 (fun kvs S3 => ∃ ky, kyOf d = some ky ∧ Qa ((ky, y) :: kvs) S3) E) E) I
    ⟨σ, S, _, E, er, sr, w, fun d v S1 H1 k1 sr1 rd1 w1 => ⟨k1, d, S1, sr1, rd1, w1⟩, qe⟩) fun u s1 ⟨x, H1, I1, rx, k1, d, S1, sr1, rd1, w1⟩ => ?_)
  refine thn (hv.run pins s1 τ H1 (fun v H2 => TK H1 H2 ∧ ∃ e S2, SR Z S2 H2 ∧ RD Z H2 e v ∧ wr σ S2 (fun kvs S3 => ∃ ky, kyOf d = some ky ∧ Qa ((ky, e) :: kvs) S3) E) I1
    ⟨σ, S1, _, E, er.keep k1, sr1, w1, fun e v S2 H2 k2 sr2 rd2 w2 => ⟨k2, e, S2, sr2, rd2, w2⟩, qe.keep k1⟩) fun u2 s2 ⟨y, H2, I2, ry, k2, e, S2, sr2, rd2, w2⟩ => ?_
  refine thn (hr pins s2 τ H2 (fun gs H3 => TK H2 H3 ∧ ∃ kvs S3, SR Z S3 H3 ∧ RK Z H3 kvs gs ∧ ∃ ky, kyOf d = some ky ∧ Qa ((ky, e) :: kvs) S3) I2
    ⟨σ, S2, _, E, (er.keep k1).keep k2, sr2, w2, fun kvs gs S3 H3 k3 sr3 rk w3 => ⟨k3, kvs, S3, sr3, rk, w3⟩, (qe.keep k1).keep k2⟩) fun ws s3 ⟨gs, H3, I3, rel, k3, kvs, S3, sr3, rk, ky, hky, w3⟩ => ?_
  have ex := kyOf_rd rd1 hky
  subst ex
  exact ⟨(kyS ky, y) :: gs, H3, I3, .cons ⟨rx, ry⟩ rel, q _ _ S3 H3 ((k1.trans k2).trans k3) sr3 (.cons (rd2.keep k3) rk) w3⟩
theorem RK.merge {H : Hp} : ∀ (more : List (Ky × D)) (kvs : List (Ky × D)) (gs hs : List (Key × V)), RK Z H more gs → RK Z H kvs hs → RK Z H (dmerge kvs more) (mergeK hs gs)
  | [], kvs, gs, hs, q, r => by cases q; exact r
  | (k, d) :: more, kvs, gs, hs, q, r => by
    cases q with
    | cons q0 t =>
      have z := RK.merge more (dput kvs k d) _ _ t (r.put q0 k)
      exact z
theorem se_dct {keys : List (Option Expr)} {vals : List Expr} {ws : Env → Sto → (List (Ky × D) → Sto → Prop) → QX → Prop} (h : SPs X Z W pos keys vals ws) (hall : keys.all (·.isSome) = true) (hl : keys.length = vals.length) (h0 : keys ≠ []) (h15 : keys.length ≤ 15) :
    SE X Z W (.Dict keys vals pos) (fun σ S Q E => ∀ p, S p = none → ws σ (S.upd p (.dct [])) (fun kvs S1 => S1 p = some (.dct []) ∧ kvs.length ≤ 15 ∧ Q (.ref p) (S1.upd p (.dct (dmerge [] kvs)))) E) := by
  refine ⟨fun pins s τ H Q I ⟨σ, S, Qa, E, er, sr, w, q, qe⟩ => ?_⟩
  have hn := I.hok.fresh (Nat.le_refl s.heap.objs.size)
  have I1 := I.laid (a := s.heap.objs.size) (o := .dK []) (h' := s.heap.push { cls := .type "dict", data := .dict #[] }) (t' := s.toks) (fun _ _ q => Heap.get?_push_of_some _ q) (Nat.le_refl _) (dk_empty s.heap I.big)
  have tk0 : TK H (upd H s.heap.objs.size (.dK [])) := TK.new hn
  have sr1 : SR Z (S.upd s.heap.objs.size (.dct [])) (upd H s.heap.objs.size (.dK [])) := sr.put (c := .dct []) tk0 ⟨[], upd_same, .nil⟩
  refine wpAny_Dict_walk (knd := mixKind X.prog X.w) hall hl h0 h15 (thn (h pins _ τ _ (fun gs H2 => TK H H2 ∧ ∃ kvs S2, SR Z S2 H2 ∧ RK Z H2 kvs gs ∧ S2 s.heap.objs.size = some (.dct []) ∧ kvs.length ≤ 15 ∧ Qa (.ref s.heap.objs.size) (S2.upd s.heap.objs.size (.dct (dmerge [] kvs)))) I1
    ⟨σ, _, _, E, er.keep tk0, sr1, w _ (sr.free hn), fun kvs gs S2 H2 k2 sr2 rk w2 => ⟨tk0.trans k2, kvs, S2, sr2, rk, w2⟩, qe.keep tk0⟩) fun ws s2 ⟨gs, H2, I2, rel, k2, kvs, S2, sr2, rk, ed, hz15, w2⟩ => ?_)
  obtain ⟨gs0, e, r00⟩ := sr2 _ _ ed
  cases r00
  obtain ⟨rs, c, rkv⟩ := carries_of (P := X.prog) (w := X.w) rel
  obtain ⟨z, hd, vs0, r0, dd⟩ := dk_of I2.hok e
  cases r0
  have lk : gs.length ≤ 15 := by rw [← rk.length]; exact hz15
  have tk2 : TK H2 (upd H2 s.heap.objs.size (.dK (mergeK [] gs))) := TK.mut e True.intro
  refine ⟨rs, c, dd, fun h' dd' hs => ⟨.ref s.heap.objs.size, _, ?_, rfl, q _ _ _ _ (k2.trans tk2) (sr2.put (c := .dct (dmerge [] kvs)) tk2 ⟨_, upd_same, (RK.merge _ _ _ _ rk .nil).keep tk2⟩) .ref w2⟩⟩
  have hz : (mergeK [] gs).length ≤ sizeLine := by
    have h1 := length_mergeK gs []
    rw [List.length_nil] at h1
    rw [sizeLine_eq]; omega
  have he : ∃ q, h'.get? s.heap.objs.size = some q := let ⟨q, _, _, hq, _⟩ := dd'; ⟨q, hq⟩
  exact d_write I2 (by rw [e]; exact True.intro) hs he (dk_new hz hd (rkv.merge .nil) dd')
theorem se_dct0 : SE X Z W (.Dict [] [] pos) (fun _ S Q _ => ∀ p, S p = none → (S.upd p (.dct [])) p = some (.dct []) ∧ ([] : List (Ky × D)).length ≤ 15 ∧ Q (.ref p) ((S.upd p (.dct [])).upd p (.dct (dmerge [] [])))) :=
  PE.imp pe_dnewK fun τ H Q ⟨σ, S, Qa, E, er, sr, w, q, qe⟩ => q.newK sr .nil fun p hp => by
    have := (w p hp).2.2
    have e : (S.upd p (.dct [])).upd p (.dct (dmerge [] [])) = S.upd p (.dct []) := by
      funext b
      unfold Sto.upd
      split <;> rfl
    rw [e] at this
    exact this
/-- d = {k: v for ..} -/
theorem dc_ok {wi : Env → Sto → (List D → (Sto → Prop) → Sto → Prop) → QX → Prop} {wt : Env → Sto → (Bool → Sto → Prop) → Prop} {wk we : WE0} {t : Tg} {τ : St} {H : Hp} {Q : VK} (hK : Z.K = X.K)
    (h : TEx Z W (fun σ S Q E => wi σ S (fun ds live S1 => ∀ p, S1 p = none → goW live (fun d K S2 => match tgW t d σ with | some σ' => wt σ' S2 (fun ok S3 => if ok then wk σ' S3 (fun y S4 => we σ' S4 (fun z S5 => ∃ kvs ky, kyOf y = some ky ∧ S5 p = some (.dct kvs) ∧ kvs.length < sizeLine ∧ K (S5.upd p (.dct (dput kvs ky z)))) (fun _ _ => False)) (fun _ _ => False) else K S3) | none => False) ds (S1.upd p (.dct [])) (fun S5 => Q (.ref p) S5)) E) τ H Q) :
    tDc (TIx Z W wi) (gTg X.K t) (TTx Z W0 fun σ S Q _ => wt σ S Q) (TEx Z W0 wk) (TEx Z W0 we) t.slots τ H Q := by
  obtain ⟨σ, S, Qa, E, er, sr, w, q, qe⟩ := h
  refine ⟨σ, S, _, E, er, sr, w, fun ds live S0 H0 J k0 sr0 wlk w0 D hD => ?_, qe⟩
  have w1 := w0 D (sr0.free hD)
  have tkD : TK H0 (upd H0 D (.dK [])) := TK.new hD
  refine ⟨fun i m H' => m = ds.length - i ∧ i ≤ ds.length ∧ TK (upd H0 D (.dK [])) H' ∧ ∃ S, SR Z S H' ∧ goW live (fun d K S2 => match tgW t d σ with | some σ' => wt σ' S2 (fun ok S3 => if ok then wk σ' S3 (fun y S4 => we σ' S4 (fun z S5 => ∃ kvs ky, kyOf y = some ky ∧ S5 D = some (.dct kvs) ∧ kvs.length < sizeLine ∧ K (S5.upd D (.dct (dput kvs ky z)))) (fun _ _ => False)) (fun _ _ => False) else K S3) | none => False) (ds.drop i) S (fun S5 => Qa (.ref D) S5),
    ⟨_, rfl, Nat.zero_le _, TK.refl _, _, sr0.put (c := .dct []) tkD ⟨[], upd_same, .nil⟩, w1⟩, ?_⟩
  rintro i m H1 ⟨rfl, hi, k1, S1, sr1, w1⟩
  have kk1 := tkD.trans k1
  by_cases hlt : i < ds.length
  · rw [List.drop_eq_getElem_cons hlt] at w1
    obtain ⟨lv, w1⟩ := w1
    refine .inr ⟨wlk.go i S1 H1 kk1 sr1 lv hlt, fun H' => TK (upd H0 D (.dK [])) H' ∧ ∃ S, SR Z S H' ∧ goW live (fun d K S2 => match tgW t d σ with | some σ' => wt σ' S2 (fun ok S3 => if ok then wk σ' S3 (fun y S4 => we σ' S4 (fun z S5 => ∃ kvs ky, kyOf y = some ky ∧ S5 D = some (.dct kvs) ∧ kvs.length < sizeLine ∧ K (S5.upd D (.dct (dput kvs ky z)))) (fun _ _ => False)) (fun _ _ => False) else K S3) | none => False) (ds.drop (i + 1)) S (fun S5 => Qa (.ref D) S5),
      fun H' h => ⟨_, by omega, rfl, hlt, h.1, h.2⟩, fun x H2 y => ?_⟩
    obtain ⟨k2, sm, rx⟩ := wlk.yld i S1 H1 x H2 _ kk1 sr1 lv (List.getElem?_eq_getElem hlt) y
    dsimp only at w1
    split at w1
    · rename_i σ2 e
      have er2 : ER Z H2 σ τ := er.keep ((k0.trans kk1).trans k2)
      refine gTg_okw hK (tgW_wipe e) rx (er2.wipe t.slots) fun τ2 er3 hw => ⟨hw.trans wipe_wipe, ?_⟩
      refine ⟨σ2, S1, _, _, er3, sr1.same sm, w1, fun ok S3 H3 k3 sr3 w3 => ?_, fun _ _ _ _ _ _ _ _ z => z⟩
      cases ok with
      | false => exact ⟨(k1.trans k2).trans k3, S3, sr3, w3⟩
      | true =>
        refine ⟨σ2, S3, _, _, er3.keep k3, sr3, w3, fun dy yv S4 H4 k4 sr4 ry w4 => ?_, fun _ _ _ _ _ _ _ _ z => z⟩
        refine ⟨σ2, S4, _, _, (er3.keep k3).keep k4, sr4, w4, fun dz zv S5 H5 k5 sr5 rz ⟨kvs, ky, eky, ea, hl, w5⟩ => ?_, fun _ _ _ _ _ _ _ _ z => z⟩
        obtain ⟨gs, hq, rs⟩ := sr5 _ _ ea
        have tk : TK H5 (upd H5 D (.dK (putK gs (kyS ky) zv))) := TK.mut hq True.intro
        refine ⟨gs, kyS ky, kyOf_rd ry eky, hq, by rw [← rs.length]; exact hl, (((((k1.trans k2).trans k3).trans k4).trans k5).trans tk), _, sr5.put (c := .dct (dput kvs ky dz)) tk ⟨_, upd_same, (rs.put rz ky).keep tk⟩, w5⟩
    · exact w1.elim
  · have e : i = ds.length := by omega
    subst e
    rw [List.drop_length] at w1
    exact .inl ⟨wlk.stop S1 H1 kk1 sr1 w1.1, q (.ref D) (.ref D) S1 H1 (k0.trans kk1) sr1 .ref w1.2⟩
theorem se_dc {kx vx iter : Expr} {ifs : List Expr} {scope : Scope} {own : List (Str × Nat)} {wi : Env → Sto → (List D → (Sto → Prop) → Sto → Prop) → QX → Prop} {wt : Env → Sto → (Bool → Sto → Prop) → Prop} {wk we : WE0} {t : Tg} (hK : Z.K = X.K) (hc : X.calm = true) (hN : X.N.Nodup)
    (hi : SI X Z W tg iter wi) (ok : BlkOk X.N X.env.scope scope own) (ho : own.map (·.2) = t.slots)
    (hg : ∀ (s : Shared) (H : Hp) (C : Addr) (cl : List (Str × Addr)) (fp : List Addr), PG (X.blk s H scope (compEnvC scope cl C X.env) fp) tg (gTg X.K t)) (ht : ∀ (s : Shared) (H : Hp) (C : Addr) (cl : List (Str × Addr)) (fp : List Addr), SC (X.blk s H scope (compEnvC scope cl C X.env) fp) Z ifs wt)
    (hk : ∀ (s : Shared) (H : Hp) (C : Addr) (cl : List (Str × Addr)) (fp : List Addr), SE (X.blk s H scope (compEnvC scope cl C X.env) fp) Z W0 kx wk)
    (he : ∀ (s : Shared) (H : Hp) (C : Addr) (cl : List (Str × Addr)) (fp : List Addr), SE (X.blk s H scope (compEnvC scope cl C X.env) fp) Z W0 vx we) (hs : ∀ x, foldedSetIterable iter X.env x = pure x) :
    SE X Z W (.DictComp kx vx [⟨tg, iter, ifs, 0⟩] scope pos) (fun σ S Q E => wi σ S (fun ds live S1 => ∀ p, S1 p = none → goW live (fun d K S2 => match tgW t d σ with | some σ' => wt σ' S2 (fun ok S3 => if ok then wk σ' S3 (fun y S4 => we σ' S4 (fun z S5 => ∃ kvs ky, kyOf y = some ky ∧ S5 p = some (.dct kvs) ∧ kvs.length < sizeLine ∧ K (S5.upd p (.dct (dput kvs ky z)))) (fun _ _ => False)) (fun _ _ => False) else K S3) | none => False) ds (S1.upd p (.dct [])) (fun S5 => Q (.ref p) S5)) E) :=
  PE.imp (pe_dc hc hN hi ok hg ht hk he hs) fun τ H Q h => by rw [ho]; exact dc_ok hK h
end
end Mini
end L2
/-! Mini, part N: the rules, over the small language -/
namespace L2
namespace Mini
open PySem PySem.Spec PyProof.Rows
/-- a written dict with text keys -/
inductive KEs (Z : Nm) : List DictEntry → List (List Nat × D) → Prop
  | nil : KEs Z [] []
  | cons {e : DictEntry} {x : Str} {t : Tok} {l : List Nat} {v : V} {d : D} {es : List DictEntry} {kvs : List (List Nat × D)} : e.key = .str x t → x = st l → RelV v e.val → (∀ H, RD Z H d v) → KEs Z es kvs → KEs Z (e :: es) ((l, d) :: kvs)
theorem KEs.find {Z : Nm} {es : List DictEntry} {kvs : List (List Nat × D)} (h : KEs Z es kvs) (l : List Nat) :
    (∃ e d v, es.find? (fun e => e.key.isStr (st l)) = some e ∧ kvs.lookup l = some d ∧ RelV v e.val ∧ ∀ H, RD Z H d v) ∨ (es.find? (fun e => e.key.isStr (st l)) = none ∧ kvs.lookup l = none ∧ es.any (·.refKey) = false) := by
  induction h with
  | nil => exact .inr ⟨rfl, rfl, rfl⟩
  | @cons e x t k v d es kvs ek ex r rd _ ih =>
    have e1 : e.key.isStr (st l) = decide (l = k) := by
      rw [ek, ex]
      show (st k == st l) = _
      by_cases c : l = k
      · subst c; simp
      · rw [decide_eq_false c]
        exact beq_eq_false_iff_ne.mpr fun h => c (st_inj h).symm
    rw [List.find?_cons, e1, List.lookup_cons]
    by_cases c : l = k
    · subst c
      simp only [decide_true, beq_self_eq_true]
      exact .inl ⟨e, d, v, rfl, rfl, r, rd⟩
    · rw [decide_eq_false c, beq_eq_false_iff_ne.mpr c]
      rcases ih with ⟨e', d', v', h1, h2, h3, h4⟩ | ⟨h1, h2, h3⟩
      · exact .inl ⟨e', d', v', h1, h2, h3, h4⟩
      · refine .inr ⟨h1, h2, ?_⟩
        rw [List.any_cons, h3, Bool.or_false]
        unfold DictEntry.refKey
        rw [ek]
structure Kdw (K : PySem.W.Frag) (Z : Nm) (P : Params) (d : Addr) (es : Array DictEntry) (n : Nat) (kvs : List (List Nat × D)) : Prop where
  at_ : K.lookup d = some ⟨.type "dict", none, .dict es n, #[]⟩
  lit : PySem.W.KeysLit P es.toList
  low : (d == sysModules) = false
  ks : KEs Z es.toList kvs
theorem Kdw.look {K : PySem.W.Frag} {Z : Nm} {P : Params} {d : Addr} {es : Array DictEntry} {n : Nat} {kvs : List (List Nat × D)} (h : Kdw K Z P d es n kvs) (l : List Nat) :
    (∃ u t v, PySem.W.nsIn K d (st l) = some (some u) ∧ kvs.lookup l = some t ∧ RelV v u ∧ ∀ H, RD Z H t v) ∨ (PySem.W.nsIn K d (st l) = some none ∧ kvs.lookup l = none) := by
  unfold PySem.W.nsIn
  rw [h.at_]
  dsimp only
  rcases h.ks.find l with ⟨e, t, v, h1, h2, h3, h4⟩ | ⟨h1, h2, h3⟩
  · rw [h1]
    exact .inl ⟨e.val, t, v, rfl, h2, h3, h4⟩
  · rw [h1]
    refine .inr ⟨?_, h2⟩
    dsimp only
    rw [h3]
    rfl
/-- names of the top: functions, classes; names it leaves to the built-ins -/
structure Tab (K : PySem.W.Frag) (mg : Str → Option Value) (Z : Nm) (G : Gam) : Prop where
  nf : G.nfn = Z.nfn
  xf : G.xfl = Z.xfl
  fn : ∀ i, i < Z.nfn → mg (Z.fnn i) = some (.ref (Z.fa i)) ∧ PySem.W.keepIn K (.ref (Z.fa i)) = true
  cl : ∀ c, c < Z.nx → mg (Z.cln c) = some (.ref (Z.cla c)) ∧ PySem.W.keepIn K (.ref (Z.cla c)) = true
  no : ∀ x, x ∈ Z.nob → mg x = none
  con : ∀ j x d, Z.con j = some (x, d) → ∃ v u, mg x = some u ∧ RelV v u ∧ ∀ H, RD Z H d v
  kdc : ∀ j x kvs, Z.kdc j = some (x, kvs) → ∃ P d es n, Z.par = some P ∧ mg x = some (.ref d) ∧ Kdw K Z P d es n kvs
  no0 : ∀ c, Z.ni c = true → c < Z.nc ∧ PySem.W.makesIn K (Z.cla c) = true ∧ PySem.W.findIn K (.ref (Z.cla c)) "__init__" = some (some (.builtin "object.__init__"))
theorem ltb {i n : Nat} (h : Nat.blt i n = true) : i < n := Nat.le_of_ble_eq_true h
theorem inb {x : Str} {l : List Str} (h : l.contains x = true) : x ∈ l := by simpa using h
structure Mx (X : Cx) (Z : Nm) (G : Gam) (k : Nat) (W : WX) (t : Bool) : Prop where
  F : FX X Z G k
  T : Tab X.K X.mg Z G
  tk : Takes X W
  calm : X.calm = true
  nd : X.N.Nodup
  hp : PassesOwn (model X.prog X.w) X.A X.env X.xe
  ind : t = false → ∀ c d τ τ' H, W c d τ H → W c d τ' H
section
variable {X : Cx} {Z : Nm} {G : Gam} {k : Nat} {W : WX} {t : Bool} {a₀ b₀ c₀ e₀ tg : Expr} {es₀ : List Expr} {ia ib ic ie : Ex} {is : Exs} {pos apos p : Pos}
def ME (X : Cx) (Z : Nm) (G : Gam) (W : WX) (e : Expr) (i : Ex) : Prop := SE X Z W e (wpE G i)
def MT (X : Cx) (Z : Nm) (G : Gam) (W : WX) (e : Expr) (i : Ex) : Prop := SEt X Z W e (toT (wpE G i))
def MW (X : Cx) (Z : Nm) (G : Gam) (W : WX) (e : Expr) (i : Ex) : Prop := SWt X Z W e (toT (wpE G i))
def MA (X : Cx) (Z : Nm) (G : Gam) (W : WX) (es : List Expr) (is : Exs) : Prop := SAs X Z W es (wpEs G is)
def MO (X : Cx) (Z : Nm) (G : Gam) (W : WX) (e : Option Expr) (i : Exo) : Prop := SO X Z W e (wpO G i)
def MC (X : Cx) (Z : Nm) (G : Gam) (es : List Expr) (i : Exo) : Prop := SC X Z es (wpC G i)
def MI (X : Cx) (Z : Nm) (G : Gam) (W : WX) (tg e : Expr) (i : Itr) : Prop := SI X Z W tg e (wpI G i)
def MS (X : Cx) (Z : Nm) (G : Gam) (W : WX) (s : Stmt) (i : Stm) : Prop := SS X Z W s (wpS G i)
def MB (X : Cx) (Z : Nm) (G : Gam) (W : WX) (s : List Stmt) (i : Stms) : Prop := SSs X Z W s (wpSs G i)
/-! ### expressions -/
theorem me_var (M : Mx X Z G k W t) (i : Nat) {x : Str} (hN : X.N[i]? = some x := by rfl) (hv : Vis X.env.scope x := by first | exact Or.inl rfl | exact Or.inr (Or.inl rfl) | exact Or.inr (Or.inr rfl)) (hd : (x == ("__debug__" : Str)) = false := by decide +kernel)
    (hcd : (x == ("__classdict__" : Str)) = false := by decide +kernel) : ME X Z G W (.Name x p) (.var i) := se_var hN hv hd hcd
theorem me_int (M : Mx X Z G k W t) {n : Int} {j : Nat} : ME X Z G W (.Constant (.int n) j p) (.lit (.int n)) := se_con pe_int fun _ => .int
theorem me_bl (M : Mx X Z G k W t) {b : Bool} {j : Nat} : ME X Z G W (.Constant (.bool b) j p) (.lit (.bl b)) := se_con pe_bl fun _ => .bl
theorem me_non (M : Mx X Z G k W t) {j : Nat} : ME X Z G W (.Constant .none j p) (.lit .non) := se_con pe_non fun _ => .non
theorem me_str (M : Mx X Z G k W t) {l : List Nat} {x : Str} {j : Nat} (h : x = st l := by decide +kernel) : ME X Z G W (.Constant (.str x) j p) (.lit (.str l)) := by
  subst h; exact se_con pe_str fun _ => .str
theorem pe_glb {x : Str} {a : Addr} (hg : Gl X x) (hm : X.mg x = some (.ref a)) (hd : (x == ("__debug__" : Str)) = false) : PE X (.Name x p) (tC (.ref a)) := ⟨fun _ _ _ H _ I h => ld_glob I hg hm ⟨.ref a, H, I, rfl, h⟩ hd⟩
/-- a def's name as a value -/
theorem me_fn (M : Mx X Z G k W t) {x : Str} {i : Nat} (hi : Nat.blt i Z.nfn = true := by rfl) (hx : x = Z.fnn i := by rfl) (hg : Gl X x := by rfl) (hd : (x == ("__debug__" : Str)) = false := by decide +kernel) : ME X Z G W (.Name x p) (.lit (.fn i)) :=
  se_con (pe_glb hg (by rw [hx]; exact (M.T.fn i (ltb hi)).1) hd) fun _ => .fn
/-- a constant of the top -/
theorem me_con (M : Mx X Z G k W t) (j : Nat) {x : Str} {d : D} (hc : Z.con j = some (x, d) := by rfl) (hg : Gl X x := by rfl) (hd : (x == ("__debug__" : Str)) = false := by decide +kernel) : ME X Z G W (.Name x p) (.lit d) := by
  obtain ⟨v, u, hm, r, rd⟩ := M.T.con j x d hc
  exact se_con ⟨fun _ _ _ H _ I h => ld_glob I hg hm ⟨v, H, I, r, h⟩ hd⟩ rd
theorem me_kin (M : Mx X Z G k W t) (j : Nat) {x : Str} {kvs : List (List Nat × D)} (ha : ME X Z G W a₀ ia) (hc : Z.kdc j = some (x, kvs) := by rfl) (hp : Z.par = some X.w.params := by rfl) (hg : Gl X x := by rfl) (hd : (x == ("__debug__" : Str)) = false := by decide +kernel) (hm : behindInMarks .In (.Name x p) = false := by first | rfl | exact nomark _) : ME X Z G W (.Compare a₀ [.In] [.Name x p] pos) (.kin false ia kvs) := by
  obtain ⟨P, d, es, n, e1, hn, kd⟩ := M.T.kdc j x kvs hc
  rw [hp] at e1
  cases e1
  have D : KDict X.K X.w d es n := ⟨kd.at_, kd.lit, kd.low⟩
  have hb : PE X (.Name x p) (tC (.ref d)) := ⟨fun _ _ _ H _ I h => ld_glob I hg hn ⟨.ref d, H, I, rfl, h⟩ hd⟩
  refine PE.imp (pe_cmpR (op_in_kd D) ha hb hm) fun τ H Q ⟨σ, S, Qa, E, er, sr, w, q, qe⟩ => ?_
  refine ⟨σ, S, _, E, er, sr, w, fun v u S1 H1 k1 sr1 rd1 w1 => ?_, qe⟩
  dsimp only at w1
  split at w1
  · rename_i l
    cases rd1
    rcases kd.look l with ⟨u, t, v, h1, h2, h3, h4⟩ | ⟨h1, h2⟩
    · refine ⟨st l, _, rfl, rfl, h1, ?_⟩
      rw [h2] at w1
      exact q (.bl true) (.bl true) S1 H1 k1 sr1 .bl w1
    · refine ⟨st l, _, rfl, rfl, h1, ?_⟩
      rw [h2] at w1
      exact q (.bl false) (.bl false) S1 H1 k1 sr1 .bl w1
  · exact w1.elim
theorem me_kix (M : Mx X Z G k W t) (j : Nat) {x : Str} {kvs : List (List Nat × D)} (ha : ME X Z G W a₀ ia) (hc : Z.kdc j = some (x, kvs) := by rfl) (hp : Z.par = some X.w.params := by rfl) (hg : Gl X x := by rfl) (hd : (x == ("__debug__" : Str)) = false := by decide +kernel) (hs : PlainIx a₀ := by intro _ _; rfl) : ME X Z G W (.Subscript (.Name x p) a₀ pos) (.kix kvs ia) := by
  obtain ⟨P, d, es, n, e1, hn, kd⟩ := M.T.kdc j x kvs hc
  rw [hp] at e1
  cases e1
  have hb : PE X (.Name x p) (tC (.ref d)) := ⟨fun _ _ _ H _ I h => ld_glob I hg hn ⟨.ref d, H, I, rfl, h⟩ hd⟩
  refine PE.imp (pe_ix ix_kdict hb ha hs) fun τ H Q ⟨σ, S, Qa, E, er, sr, w, q, qe⟩ => ?_
  refine ⟨σ, S, _, E, er, sr, w, fun v u S1 H1 k1 sr1 rd1 w1 => ?_, qe⟩
  dsimp only at w1
  split at w1
  · rename_i l
    cases rd1
    rcases kd.look l with ⟨u, t, v, h1, h2, h3, h4⟩ | ⟨h1, h2⟩
    · rw [h2] at w1
      exact ⟨d, st l, v, rfl, rfl, ⟨es, n, u, kd.at_, kd.lit, h1, h3⟩, q t v S1 H1 k1 sr1 (h4 _) w1⟩
    · rw [h2] at w1
      exact w1.elim
  · exact w1.elim
theorem me_bin (M : Mx X Z G k W t) {op : Bop} {o : Operator} (ha : ME X Z G W a₀ ia) (hb : ME X Z G W b₀ ib) (ho : o = bopOf op := by rfl) : ME X Z G W (.BinOp a₀ o b₀ pos) (.bin op ia ib) := by subst ho; exact se_bin M.F.zk ha hb
theorem me_cmp (M : Mx X Z G k W t) {op : Cop} {o : CmpOp} (ha : ME X Z G W a₀ ia) (hb : ME X Z G W b₀ ib) (ho : o = copOf op := by rfl) (hm : behindInMarks o b₀ = false := by first | rfl | exact nomark _) : ME X Z G W (.Compare a₀ [o] [b₀] pos) (.cmp op ia ib) := by subst ho; exact se_cmp M.F.zk M.F.hu ha hb hm
theorem mt_cmp (M : Mx X Z G k W t) {op : Cop} {o : CmpOp} (ha : ME X Z G W a₀ ia) (hb : ME X Z G W b₀ ib) (ho : o = copOf op := by rfl) (hm : behindInMarks o b₀ = false := by first | rfl | exact nomark _) : MT X Z G W (.Compare a₀ [o] [b₀] pos) (.cmp op ia ib) := by subst ho; exact st_cmp M.F.zk M.F.hu ha hb hm
theorem me_chn (M : Mx X Z G k W t) {op oq : Cop} {o o2 : CmpOp} (ha : ME X Z G W a₀ ia) (hb : ME X Z G W b₀ ib) (hc : ME X Z G W c₀ ic) (ho : o = copOf op := by rfl) (ho2 : o2 = copOf oq := by rfl) (hm : lastMarks [o, o2] [b₀, c₀] = false := by rfl) : ME X Z G W (.Compare a₀ [o, o2] [b₀, c₀] pos) (.chn op oq ia ib ic) := by subst ho ho2; exact se_chn M.F ha hb hc hm
theorem mt_chn (M : Mx X Z G k W t) {op oq : Cop} {o o2 : CmpOp} (ha : ME X Z G W a₀ ia) (hb : ME X Z G W b₀ ib) (hc : ME X Z G W c₀ ic) (ho : o = copOf op := by rfl) (ho2 : o2 = copOf oq := by rfl) (hm : lastMarks [o, o2] [b₀, c₀] = false := by rfl) : MT X Z G W (.Compare a₀ [o, o2] [b₀, c₀] pos) (.chn op oq ia ib ic) := by subst ho ho2; exact st_chn M.F ha hb hc hm
theorem me_neg (M : Mx X Z G k W t) (ha : ME X Z G W a₀ ia) : ME X Z G W (.UnaryOp .USub a₀ pos) (.neg ia) := se_neg ha
theorem me_not (M : Mx X Z G k W t) (ha : ME X Z G W a₀ ia) : ME X Z G W (.UnaryOp .Not a₀ pos) (.not ia) := se_not M.F.zk ha
theorem me_one (M : Mx X Z G k W t) {op : BoolOp} (ha : ME X Z G W a₀ ia) : ME X Z G W (.BoolOp op [a₀] pos) ia := se_one ha
theorem me_and (M : Mx X Z G k W t) {rest : List Expr} (ha : ME X Z G W a₀ ia) (hb : ME X Z G W (.BoolOp .And (b₀ :: rest) pos) ib) : ME X Z G W (.BoolOp .And (a₀ :: b₀ :: rest) pos) (.and ia ib) := se_and M.F.zk ha hb
theorem me_or (M : Mx X Z G k W t) {rest : List Expr} (ha : ME X Z G W a₀ ia) (hb : ME X Z G W (.BoolOp .Or (b₀ :: rest) pos) ib) : ME X Z G W (.BoolOp .Or (a₀ :: b₀ :: rest) pos) (.or ia ib) := se_or M.F.zk ha hb
theorem mt_of (M : Mx X Z G k W t) (ha : ME X Z G W a₀ ia) (he : ∀ whole, isTrue a₀ X.env whole = (do let v ← whole; standAt a₀.pos; holding [v] (truthy v)) := by intro _; rfl) : MT X Z G W a₀ ia := st_plain M.F.zk ha he
theorem mt_not (M : Mx X Z G k W t) (ha : MT X Z G W a₀ ia) : MT X Z G W (.UnaryOp .Not a₀ pos) (.not ia) := st_not ha
theorem mw_and1 (M : Mx X Z G k W t) (ha : MT X Z G W a₀ ia) : MW X Z G W (.BoolOp .And [a₀] pos) ia := sw_and1 ha
theorem mw_or1 (M : Mx X Z G k W t) (ha : MT X Z G W a₀ ia) : MW X Z G W (.BoolOp .Or [a₀] pos) ia := sw_or1 ha
theorem mw_and (M : Mx X Z G k W t) {rest : List Expr} (ha : MT X Z G W a₀ ia) (hb : MW X Z G W (.BoolOp .And (b₀ :: rest) pos) ib) : MW X Z G W (.BoolOp .And (a₀ :: b₀ :: rest) pos) (.and ia ib) := sw_and ha hb
theorem mw_or (M : Mx X Z G k W t) {rest : List Expr} (ha : MT X Z G W a₀ ia) (hb : MW X Z G W (.BoolOp .Or (b₀ :: rest) pos) ib) : MW X Z G W (.BoolOp .Or (a₀ :: b₀ :: rest) pos) (.or ia ib) := sw_or ha hb
theorem mt_w (M : Mx X Z G k W t) (h : MW X Z G W a₀ ia) : MT X Z G W a₀ ia := SWt.t h
theorem me_ite (M : Mx X Z G k W t) (hc : MT X Z G W c₀ ic) (ha : ME X Z G W a₀ ia) (hb : ME X Z G W b₀ ib) : ME X Z G W (.IfExp c₀ a₀ b₀ pos) (.ite ic ia ib) := se_ite hc ha hb
theorem ma_nil (M : Mx X Z G k W t) : MA X Z G W [] .nil := sa_nil
theorem ma_cons (M : Mx X Z G k W t) {es : List Expr} (ha : ME X Z G W a₀ ia) (hs : MA X Z G W es is) (hst : starEach (a₀ :: es) X.env = (false, eval a₀ X.env) :: starEach es X.env := by rfl) : MA X Z G W (a₀ :: es) (.cons ia is) := sa_cons ha hs hst
theorem me_tup (M : Mx X Z G k W t) {es : List Expr} {kk : Nat} (hs : MA X Z G W es is) : ME X Z G W (.Tuple es kk pos) (.tup is) := se_tup hs
theorem me_lst (M : Mx X Z G k W t) {es : List Expr} (hs : MA X Z G W es is) : ME X Z G W (.List es pos) (.lst is) := se_lst hs
theorem me_ix (M : Mx X Z G k W t) (ha : ME X Z G W a₀ ia) (hb : ME X Z G W b₀ ib) (hp : PlainIx b₀ := by intro _ _; rfl) : ME X Z G W (.Subscript a₀ b₀ pos) (.ix ia ib) := se_ix M.F.zk M.F.hu ha hb hp
theorem mo_none (M : Mx X Z G k W t) : MO X Z G W none .none := so_none
theorem mo_some (M : Mx X Z G k W t) (ha : ME X Z G W a₀ ia) : MO X Z G W (some a₀) (.some ia) := so_some ha
theorem me_slc (M : Mx X Z G k W t) {lo hi : Option Expr} {il ih : Exo} {p2 : Pos} (ha : ME X Z G W a₀ ia) (hl : MO X Z G W lo il) (hh : MO X Z G W hi ih) : ME X Z G W (.Subscript a₀ (.Slice lo hi none p2) pos) (.slc ia il ih) := se_slc M.F.zk ha hl hh
theorem me_att (M : Mx X Z G k W t) {f : Nat} {x : Str} (ha : ME X Z G W a₀ ia) (hf : Nat.blt f Z.nf = true := by rfl) (hx : x = Z.fld f := by rfl) (hb : attributeBase a₀ x X.env (eval a₀ X.env) = eval a₀ X.env := by rfl) : ME X Z G W (.Attribute a₀ x pos) (.att ia f) := se_att M.F (ltb hf) hx ha hb
theorem me_call (M : Mx X Z G k W t) {x : Str} {i : Nat} (ha : MA X Z G W (e₀ :: es₀) is) (hi : Nat.blt i Z.nfn = true := by rfl) (hx : x = Z.fnn i := by rfl) (hg : Gl X x := by rfl) (hdb : (x == ("__debug__" : Str)) = false := by decide +kernel)
    (he : starEach (e₀ :: es₀) X.env = (false, eval e₀ X.env) :: starEach es₀ X.env := by rfl) (hpl : (backTo pos (starEach es₀ X.env)).any (·.1) = false := by rfl) : ME X Z G W (.Call (.Name x p) (e₀ :: es₀) [] pos) (.call i is) := by
  subst hx; exact se_call M.F M.tk hg (M.T.fn i (ltb hi)).1 (M.T.fn i (ltb hi)).2 hdb ha he hpl
theorem me_call0 (M : Mx X Z G k W t) {x : Str} {i : Nat} (hi : Nat.blt i Z.nfn = true := by rfl) (hx : x = Z.fnn i := by rfl) (hg : Gl X x := by rfl) (hdb : (x == ("__debug__" : Str)) = false := by decide +kernel) : ME X Z G W (.Call (.Name x p) [] [] pos) (.call i .nil) := by
  subst hx; exact se_call0 M.F M.tk hg (M.T.fn i (ltb hi)).1 (M.T.fn i (ltb hi)).2 hdb
theorem me_callv (M : Mx X Z G k W t) {x : Str} (j : Nat) (ha : MA X Z G W (e₀ :: es₀) is) (hN : X.N[j]? = some x := by rfl) (hv : Vis X.env.scope x := by first | exact Or.inl rfl | exact Or.inr (Or.inl rfl) | exact Or.inr (Or.inr rfl)) (hd : (x == ("__debug__" : Str)) = false := by decide +kernel) (hcd : (x == ("__classdict__" : Str)) = false := by decide +kernel)
    (he : starEach (e₀ :: es₀) X.env = (false, eval e₀ X.env) :: starEach es₀ X.env := by rfl) (hpl : (backTo pos (starEach es₀ X.env)).any (·.1) = false := by rfl) : ME X Z G W (.Call (.Name x p) (e₀ :: es₀) [] pos) (.callv j is) :=
  se_callv M.F M.tk hN hv hd hcd (fun i hi => (M.T.fn i (by rw [← M.T.nf]; exact hi)).2) ha he hpl
theorem me_bi (M : Mx X Z G k W t) {x : Str} {b : Bi} (ha : MA X Z G W (e₀ :: es₀) is) (hv : bootBuiltins x = some (biF b) := by decide +kernel) (hg : Gl X x := by rfl) (hm : Z.nob.contains x = true := by rfl) (hn : x ≠ "__name__" := by decide +kernel) (hdb : (x == ("__debug__" : Str)) = false := by decide +kernel)
    (hF : (∃ id, biF b = .builtin id) ∨ ∃ T, biF b = .type T := by first | exact Or.inl ⟨_, rfl⟩ | exact Or.inr ⟨_, rfl⟩)
    (he : starEach (e₀ :: es₀) X.env = (false, eval e₀ X.env) :: starEach es₀ X.env := by rfl) (hpl : (backTo pos (starEach es₀ X.env)).any (·.1) = false := by rfl) : ME X Z G W (.Call (.Name x p) (e₀ :: es₀) [] pos) (.bi b is) :=
  se_bi M.F M.calm hg (M.T.no x (inb hm)) hv ha hn hdb hF he hpl
theorem me_isi (M : Mx X Z G k W t) {xI xT : Str} {ty : Ty} {pT : Pos} (ha : ME X Z G W a₀ ia) (hI : xI = "isinstance" := by decide +kernel) (hg : Gl X xI := by rfl) (hm : Z.nob.contains xI = true := by rfl) (hgT : Gl X xT := by rfl) (hmT : Z.nob.contains xT = true := by rfl) (hvT : bootBuiltins xT = some (.type (tyName ty)) := by decide +kernel)
    (hn : xT ≠ "__name__" := by decide +kernel) (hdb : (xT == ("__debug__" : Str)) = false := by decide +kernel) (he : starEach [a₀, .Name xT pT] X.env = (false, eval a₀ X.env) :: starEach [.Name xT pT] X.env := by rfl) : ME X Z G W (.Call (.Name xI p) [a₀, .Name xT pT] [] pos) (.isi ia ty) := by
  subst hI; exact se_isi M.F hg (M.T.no _ (inb hm)) hgT (M.T.no _ (inb hmT)) hvT hn hdb ha he (by decide +kernel)
theorem me_new (M : Mx X Z G k W false) {x : Str} {c : Nat} (ha : MA X Z G W (e₀ :: es₀) is) (hc : Nat.blt c Z.nx = true := by rfl) (hx : x = Z.cln c := by rfl) (hg : Gl X x := by rfl) (hdb : (x == ("__debug__" : Str)) = false := by decide +kernel)
    (he : starEach (e₀ :: es₀) X.env = (false, eval e₀ X.env) :: starEach es₀ X.env := by rfl) (hpl : (backTo pos (starEach es₀ X.env)).any (·.1) = false := by rfl) : ME X Z G W (.Call (.Name x p) (e₀ :: es₀) [] pos) (.new c is) := by
  subst hx; exact se_new M.F M.tk (M.ind rfl) hg (M.T.cl c (ltb hc)).1 (M.T.cl c (ltb hc)).2 hdb ha he hpl
theorem me_new0 (M : Mx X Z G k W false) {x : Str} {c : Nat} (hc : Nat.blt c Z.nx = true := by rfl) (hx : x = Z.cln c := by rfl) (hg : Gl X x := by rfl) (hdb : (x == ("__debug__" : Str)) = false := by decide +kernel) : ME X Z G W (.Call (.Name x p) [] [] pos) (.new c .nil) := by
  subst hx; exact se_new0 M.F M.tk (M.ind rfl) hg (M.T.cl c (ltb hc)).1 (M.T.cl c (ltb hc)).2 hdb
theorem me_newo (M : Mx X Z G k W t) {x : Str} {c : Nat} (hn : Z.ni c = true := by rfl) (hc : Nat.blt c Z.nx = true := by rfl) (hx : x = Z.cln c := by rfl) (hg : Gl X x := by rfl) (hdb : (x == ("__debug__" : Str)) = false := by decide +kernel) : ME X Z G W (.Call (.Name x p) [] [] pos) (.newo c) := by
  subst hx; exact se_newo (M.T.no0 c hn).1 (M.T.no0 c hn).2.1 (M.T.no0 c hn).2.2 hg (M.T.cl c (ltb hc)).1 (M.T.cl c (ltb hc)).2 hdb
theorem me_mth (M : Mx X Z G k W t) {m : Nat} {x : Str} {pl : Sem Bool} (ho : ME X Z G W a₀ ia) (ha : MA X Z G W (e₀ :: es₀) is) (hx : x = Z.mn m := by rfl)
    (hst : starEach (e₀ :: es₀) X.env = (false, eval e₀ X.env) :: starEach es₀ X.env := by rfl) (hpl : (backTo pos (starEach es₀ X.env)).any (·.1) = false := by rfl)
    (ht : eval (.Call (.Attribute a₀ x apos) (e₀ :: es₀) [] pos) X.env = (do
      let ov ← eval a₀ X.env
      standAt apos.atName
      let (f, first) ← holding [ov] (getMethod ov x pl)
      callWith pos f first (backTo pos (starEach (e₀ :: es₀) X.env)) (backToKw pos (keywordEach [] X.env))) := by rfl) : ME X Z G W (.Call (.Attribute a₀ x apos) (e₀ :: es₀) [] pos) (.mth m ia is) := se_mth M.F M.tk hx ho ha hst hpl ht
theorem me_mth0 (M : Mx X Z G k W t) {m : Nat} {x : Str} {pl : Sem Bool} (ho : ME X Z G W a₀ ia) (hx : x = Z.mn m := by rfl)
    (ht : eval (.Call (.Attribute a₀ x apos) [] [] pos) X.env = (do
      let ov ← eval a₀ X.env
      standAt apos.atName
      let (f, first) ← holding [ov] (getMethod ov x pl)
      callWith pos f first (backTo pos (starEach [] X.env)) (backToKw pos (keywordEach [] X.env))) := by rfl) : ME X Z G W (.Call (.Attribute a₀ x apos) [] [] pos) (.mth m ia .nil) := se_mth0 M.F M.tk hx ho ht
theorem me_append (M : Mx X Z G k W t) (ho : ME X Z G W a₀ ia) (ha : ME X Z G W e₀ ie) (hbase : attributeBase a₀ "append" X.env (eval a₀ X.env) = eval a₀ X.env := by rfl)
    (hfew : ((backTo pos (starEach [e₀] X.env)).all (fun x => !x.1) && (backToKw pos (keywordEach [] X.env)).all (fun x => x.1.isSome) && decide ([e₀].length + ([] : List Keyword).length + (if ([] : List Keyword).isEmpty then 0 else 1) < 30)) = true := by rfl)
    (hline : (apos.endLine == pos.line) = true := by rfl) (hs : starEach [e₀] X.env = (false, eval e₀ X.env) :: starEach [] X.env := by rfl) : ME X Z G W (.Call (.Attribute a₀ "append" apos) [e₀] [] pos) (.bm .append ia (.cons ie .nil)) :=
  se_bm (m := .append) M.F M.calm PySem.F.plainAttrs_list PySem.F.slot_list_append PySem.F.type_list_append ho (ma_cons M ha (ma_nil M) hs) hbase hfew hline hs rfl
theorem me_extend (M : Mx X Z G k W t) (ho : ME X Z G W a₀ ia) (ha : ME X Z G W e₀ ie) (hbase : attributeBase a₀ "extend" X.env (eval a₀ X.env) = eval a₀ X.env := by rfl)
    (hfew : ((backTo pos (starEach [e₀] X.env)).all (fun x => !x.1) && (backToKw pos (keywordEach [] X.env)).all (fun x => x.1.isSome) && decide ([e₀].length + ([] : List Keyword).length + (if ([] : List Keyword).isEmpty then 0 else 1) < 30)) = true := by rfl)
    (hline : (apos.endLine == pos.line) = true := by rfl) (hs : starEach [e₀] X.env = (false, eval e₀ X.env) :: starEach [] X.env := by rfl) : ME X Z G W (.Call (.Attribute a₀ "extend" apos) [e₀] [] pos) (.bm .extend ia (.cons ie .nil)) :=
  se_bm (m := .extend) M.F M.calm PySem.F.plainAttrs_list PySem.F.slot_list_extend PySem.F.type_list_extend ho (ma_cons M ha (ma_nil M) hs) hbase hfew hline hs rfl
theorem me_pop (M : Mx X Z G k W t) (ho : ME X Z G W a₀ ia) (hbase : attributeBase a₀ "pop" X.env (eval a₀ X.env) = eval a₀ X.env := by rfl) (hline : (apos.endLine == pos.line) = true := by rfl) : ME X Z G W (.Call (.Attribute a₀ "pop" apos) [] [] pos) (.bm .pop ia .nil) :=
  se_bm0 (m := .pop) M.F M.calm PySem.F.plainAttrs_list PySem.F.slot_list_pop PySem.F.type_list_pop ho hbase hline
theorem me_pop1 (M : Mx X Z G k W t) (ho : ME X Z G W a₀ ia) (ha : ME X Z G W e₀ ie) (hbase : attributeBase a₀ "pop" X.env (eval a₀ X.env) = eval a₀ X.env := by rfl)
    (hfew : ((backTo pos (starEach [e₀] X.env)).all (fun x => !x.1) && (backToKw pos (keywordEach [] X.env)).all (fun x => x.1.isSome) && decide ([e₀].length + ([] : List Keyword).length + (if ([] : List Keyword).isEmpty then 0 else 1) < 30)) = true := by rfl)
    (hline : (apos.endLine == pos.line) = true := by rfl) (hs : starEach [e₀] X.env = (false, eval e₀ X.env) :: starEach [] X.env := by rfl) : ME X Z G W (.Call (.Attribute a₀ "pop" apos) [e₀] [] pos) (.bm .pop ia (.cons ie .nil)) :=
  se_bm (m := .pop) M.F M.calm PySem.F.plainAttrs_list PySem.F.slot_list_pop PySem.F.type_list_pop ho (ma_cons M ha (ma_nil M) hs) hbase hfew hline hs rfl
theorem me_index (M : Mx X Z G k W t) (ho : ME X Z G W a₀ ia) (ha : ME X Z G W e₀ ie) (hbase : attributeBase a₀ "index" X.env (eval a₀ X.env) = eval a₀ X.env := by rfl)
    (hfew : ((backTo pos (starEach [e₀] X.env)).all (fun x => !x.1) && (backToKw pos (keywordEach [] X.env)).all (fun x => x.1.isSome) && decide ([e₀].length + ([] : List Keyword).length + (if ([] : List Keyword).isEmpty then 0 else 1) < 30)) = true := by rfl)
    (hline : (apos.endLine == pos.line) = true := by rfl) (hs : starEach [e₀] X.env = (false, eval e₀ X.env) :: starEach [] X.env := by rfl) : ME X Z G W (.Call (.Attribute a₀ "index" apos) [e₀] [] pos) (.bm .index ia (.cons ie .nil)) :=
  se_bm (m := .index) M.F M.calm PySem.F.plainAttrs_list PySem.F.slot_list_index PySem.F.type_list_index ho (ma_cons M ha (ma_nil M) hs) hbase hfew hline hs rfl
theorem me_count (M : Mx X Z G k W t) (ho : ME X Z G W a₀ ia) (ha : ME X Z G W e₀ ie) (hbase : attributeBase a₀ "count" X.env (eval a₀ X.env) = eval a₀ X.env := by rfl)
    (hfew : ((backTo pos (starEach [e₀] X.env)).all (fun x => !x.1) && (backToKw pos (keywordEach [] X.env)).all (fun x => x.1.isSome) && decide ([e₀].length + ([] : List Keyword).length + (if ([] : List Keyword).isEmpty then 0 else 1) < 30)) = true := by rfl)
    (hline : (apos.endLine == pos.line) = true := by rfl) (hs : starEach [e₀] X.env = (false, eval e₀ X.env) :: starEach [] X.env := by rfl) : ME X Z G W (.Call (.Attribute a₀ "count" apos) [e₀] [] pos) (.bm .count ia (.cons ie .nil)) :=
  se_bm (m := .count) M.F M.calm PySem.F.plainAttrs_str PySem.F.slot_str_count PySem.F.type_str_count ho (ma_cons M ha (ma_nil M) hs) hbase hfew hline hs rfl
theorem me_split (M : Mx X Z G k W t) (ho : ME X Z G W a₀ ia) (ha : ME X Z G W e₀ ie) (hbase : attributeBase a₀ "split" X.env (eval a₀ X.env) = eval a₀ X.env := by rfl)
    (hfew : ((backTo pos (starEach [e₀] X.env)).all (fun x => !x.1) && (backToKw pos (keywordEach [] X.env)).all (fun x => x.1.isSome) && decide ([e₀].length + ([] : List Keyword).length + (if ([] : List Keyword).isEmpty then 0 else 1) < 30)) = true := by rfl)
    (hline : (apos.endLine == pos.line) = true := by rfl) (hs : starEach [e₀] X.env = (false, eval e₀ X.env) :: starEach [] X.env := by rfl) : ME X Z G W (.Call (.Attribute a₀ "split" apos) [e₀] [] pos) (.bm .split ia (.cons ie .nil)) :=
  se_bm (m := .split) M.F M.calm PySem.F.plainAttrs_str PySem.F.slot_str_split PySem.F.type_str_split ho (ma_cons M ha (ma_nil M) hs) hbase hfew hline hs rfl
theorem me_join (M : Mx X Z G k W t) (ho : ME X Z G W a₀ ia) (ha : ME X Z G W e₀ ie) (hbase : attributeBase a₀ "join" X.env (eval a₀ X.env) = eval a₀ X.env := by rfl)
    (hfew : ((backTo pos (starEach [e₀] X.env)).all (fun x => !x.1) && (backToKw pos (keywordEach [] X.env)).all (fun x => x.1.isSome) && decide ([e₀].length + ([] : List Keyword).length + (if ([] : List Keyword).isEmpty then 0 else 1) < 30)) = true := by rfl)
    (hline : (apos.endLine == pos.line) = true := by rfl) (hs : starEach [e₀] X.env = (false, eval e₀ X.env) :: starEach [] X.env := by rfl) : ME X Z G W (.Call (.Attribute a₀ "join" apos) [e₀] [] pos) (.bm .join ia (.cons ie .nil)) :=
  se_bm (m := .join) M.F M.calm PySem.F.plainAttrs_str PySem.F.slot_str_join PySem.F.type_str_join ho (ma_cons M ha (ma_nil M) hs) hbase hfew hline hs rfl
theorem me_startswith (M : Mx X Z G k W t) (ho : ME X Z G W a₀ ia) (ha : ME X Z G W e₀ ie) (hbase : attributeBase a₀ "startswith" X.env (eval a₀ X.env) = eval a₀ X.env := by rfl)
    (hfew : ((backTo pos (starEach [e₀] X.env)).all (fun x => !x.1) && (backToKw pos (keywordEach [] X.env)).all (fun x => x.1.isSome) && decide ([e₀].length + ([] : List Keyword).length + (if ([] : List Keyword).isEmpty then 0 else 1) < 30)) = true := by rfl)
    (hline : (apos.endLine == pos.line) = true := by rfl) (hs : starEach [e₀] X.env = (false, eval e₀ X.env) :: starEach [] X.env := by rfl) : ME X Z G W (.Call (.Attribute a₀ "startswith" apos) [e₀] [] pos) (.bm .startswith ia (.cons ie .nil)) :=
  se_bm (m := .startswith) M.F M.calm PySem.F.plainAttrs_str PySem.F.slot_str_startswith PySem.F.type_str_startswith ho (ma_cons M ha (ma_nil M) hs) hbase hfew hline hs rfl
/-! ### dicts -/
def MPs (X : Cx) (Z : Nm) (G : Gam) (W : WX) (pos : Pos) (ks : List (Option Expr)) (vs : List Expr) (i : Exs) : Prop := SPs X Z W pos ks vs (wpPs G i)
theorem mp_nil (M : Mx X Z G k W t) : MPs X Z G W pos [] [] .nil := sp_nil
theorem mp_cons (M : Mx X Z G k W t) {ks : List (Option Expr)} {vs : List Expr} (hk : ME X Z G W a₀ ia) (hv : ME X Z G W b₀ ib) (hr : MPs X Z G W pos ks vs is) : MPs X Z G W pos (some a₀ :: ks) (b₀ :: vs) (.cons ia (.cons ib is)) := sp_cons hk hv hr
theorem me_dct (M : Mx X Z G k W t) {ks : List (Option Expr)} {vs : List Expr} (h : MPs X Z G W pos ks vs is) (hall : ks.all (·.isSome) = true := by rfl) (hl : ks.length = vs.length := by rfl) (h0 : ks ≠ [] := by intro h; cases h) (h15 : Nat.ble ks.length 15 = true := by rfl) : ME X Z G W (.Dict ks vs pos) (.dct is) :=
  se_dct h hall hl h0 (Nat.le_of_ble_eq_true h15)
theorem me_dct0 (M : Mx X Z G k W t) : ME X Z G W (.Dict [] [] pos) (.dct .nil) := se_dct0
/-! ### isinstance of two classes -/
theorem me_isi2 (M : Mx X Z G k W t) {xI xT xU : Str} {ty uy : Ty} {pT pU pp : Pos} {kk : Nat} (ha : ME X Z G W a₀ ia) (hI : xI = "isinstance" := by decide +kernel) (hg : Gl X xI := by rfl) (hm : Z.nob.contains xI = true := by rfl) (hgT : Gl X xT := by rfl) (hmT : Z.nob.contains xT = true := by rfl) (hvT : bootBuiltins xT = some (.type (tyName ty)) := by decide +kernel)
    (hn : xT ≠ "__name__" := by decide +kernel) (hdb : (xT == ("__debug__" : Str)) = false := by decide +kernel) (hgU : Gl X xU := by rfl) (hmU : Z.nob.contains xU = true := by rfl) (hvU : bootBuiltins xU = some (.type (tyName uy)) := by decide +kernel) (hnU : xU ≠ "__name__" := by decide +kernel) (hdbU : (xU == ("__debug__" : Str)) = false := by decide +kernel)
    (he : starEach [a₀, .Tuple [.Name xT pT, .Name xU pU] kk pp] X.env = (false, eval a₀ X.env) :: starEach [.Tuple [.Name xT pT, .Name xU pU] kk pp] X.env := by rfl) (he2 : starEach [.Name xT pT, .Name xU pU] X.env = (false, eval (.Name xT pT) X.env) :: starEach [.Name xU pU] X.env := by rfl) : ME X Z G W (.Call (.Name xI p) [a₀, .Tuple [.Name xT pT, .Name xU pU] kk pp] [] pos) (.isi2 ia ty uy) := by
  subst hI
  have hT : PE X (.Name xT pT) (tC (.ty (tyName ty))) := pe_bltn hgT (M.T.no _ (inb hmT)) hvT rfl hn hdb
  have hU : PE X (.Name xU pU) (tC (.ty (tyName uy))) := pe_bltn hgU (M.T.no _ (inb hmU)) hvU rfl hnU hdbU
  refine PE.imp (pe_callB call_isiT hg (M.T.no _ (inb hm)) (by decide +kernel) (pa_cons ha (pa_cons (pe_tup (pa_cons hT (pa_cons hU pa_nil) he2)) pa_nil) he) (by decide +kernel) (by decide +kernel) he) fun τ H Q ⟨σ, S, Qa, E, er, sr, w, q, qe⟩ => ?_
  refine ⟨σ, S, _, E, er, sr, w, fun d v S1 H1 k1 sr1 rd1 w1 => ?_, qe⟩
  dsimp only at w1
  split at w1
  · rename_i r q' e1 e2
    refine ⟨by show 2 ≤ sizeLine; rw [sizeLine_eq]; omega, fun tp hp => ?_⟩
    have tk : TK H1 (upd H1 tp (.tup [.ty (tyName ty), .ty (tyName uy)])) := TK.new hp
    have sr2 := sr1.new (o := .tup [.ty (tyName ty), .ty (tyName uy)]) hp
    obtain ⟨y1, t1, t2, t4⟩ := isi_ty2 (K := X.K) M.F.zk sr2 (rd1.keep tk) e1 e2
    refine ⟨v, tp, _, y1, [.type (tyName ty), .type (tyName uy)], r || q', rfl, upd_same, .cons (.ty _) (.cons (.ty _) .nil), t1, ?_, q (.bl (r || q')) _ S1 _ (k1.trans tk) sr2 .bl w1⟩
    refine kitAny_cons t2 (fun e => ?_) fun e => by rw [e]; rfl
    refine kitAny_cons t4 (fun e3 => ?_) fun e3 => by rw [e3, e]; rfl
    rw [e, e3]
    exact kitAny_nil
  · exact w1.elim
/-! ### backwards -/
theorem range_pick {α : Type} : ∀ l : List α, (List.range l.length).filterMap (fun k => l[k]?) = l
  | [] => rfl
  | a :: l => by
    rw [List.length_cons, List.range_succ_eq_map, List.filterMap_cons]
    show a :: List.filterMap _ _ = _
    rw [List.filterMap_map]
    exact congrArg (a :: ·) (range_pick l)
theorem fm_congr {α β : Type} {f g : α → Option β} : ∀ l : List α, (∀ x ∈ l, f x = g x) → l.filterMap f = l.filterMap g
  | [], _ => rfl
  | a :: l, h => by
    rw [List.filterMap_cons, List.filterMap_cons, h a List.mem_cons_self, fm_congr l fun x hx => h x (List.mem_cons_of_mem _ hx)]
theorem rev_pick (items : Array Value) : (List.range items.size).filterMap (fun (k : Nat) => items[(((items.size : Int) - 1) + (k : Int) * (-1)).toNat]?) = items.toList.reverse := by
  have e := range_pick items.toList.reverse
  rw [List.length_reverse, Array.length_toList] at e
  rw [← e]
  refine fm_congr _ fun k hk => ?_
  have hk := List.mem_range.mp hk
  rw [List.getElem?_reverse (by simpa using hk), Array.getElem?_toList, Array.length_toList]
  congr 1
  omega
theorem rev_adj (n : Nat) : Builtin.Slice.sliceAdjust none none (-1) (n : Int) = ((n : Int) - 1, -1) := rfl
theorem rev_plc (n : Nat) : Builtin.Slice.slicePlaces ((n : Int) - 1) (-1) (-1) = n := by
  unfold Builtin.Slice.slicePlaces
  rw [if_neg (by decide)]
  by_cases h : (n : Int) - 1 > -1
  · rw [if_pos h]
    have : ((n : Int) - 1 - -1 - 1) / - -1 = (n : Int) - 1 := by
      rw [show (- -1 : Int) = 1 by decide, Int.ediv_one]; omega
    rw [this]
    omega
  · rw [if_neg h]; omega
theorem getItem_tuple_rev {prog : Program} {w : World} {A : Around} {E : Value → Shared → Prop} {s : Shared} {t sl : Addr} {items : Array Value} {vl vu vs : Value} {Q : Value → Shared → Prop} (ht : IsTup s.heap t items) (hs : s.heap.IsSliceOf sl vl vu vs) (pl : IsPart vl none) (pu : IsPart vu none) (ps : IsPart vs (some (-1)))
    (h : Q (.ref s.heap.objs.size) { s with heap := s.heap.push { cls := .type "tuple", data := .seq items.toList.reverse.toArray } }) (hsz : items.size ≤ sizeLine) : wpAny (model prog w) A (getItem (.ref t) (.ref sl)) Q E s := by
  have htake : sizeOk (.seq items.toList.reverse.toArray) := by
    show items.toList.reverse.toArray.size ≤ sizeLine
    rw [List.size_toArray, List.length_reverse, Array.length_toList]
    exact hsz
  obtain ⟨os, hos, hcs, hds⟩ := id hs
  have hTs : s.TypeIs (.ref sl) "slice" := ⟨os, hos, hcs⟩
  unfold getItem
  try with_reducible refine wpAny_holding ?_
  first | refine wpAny_bind (wpAny_pure ?_) | skip
  refine wpAny_bind (wpAny_sequenceKey ht.typeIs (by decide) (wpAny_bind (wpAny_callSpecial?_slot (name := Str.ofString "__getitem__") ht.typeIs PyProof.Rows.slot_tuple_getitem
    (wpAny_call_entry PyProof.Rows.slot_tuple_getitem ht.typeIs entry_tuple_getitem ?_ (args_tuple_getitem _ _)))))
  show wpAny _ _ (Builtin.Tuple.tupleItemsOf (.ref t) >>= _) _ _ s
  refine wpAny_bind (tupleItemsOf_ ht (wpAny_bind (wpAny_typeOf hTs ?_)))
  rw [if_pos (by decide)]
  have ap : ∀ (A : Around) (E : Value → Shared → Prop), wpAny (model prog w) A (Builtin.Slice.sliceApplied (.ref sl) (pure (items.size : Int))) (fun r s' => r = (((items.size : Int) - 1), (-1 : Int), items.size) ∧ s' = s) E s := by
    intro A E
    unfold Builtin.Slice.sliceApplied Builtin.Slice.sliceFields
    refine wpAny_bind (wpAny_bind (wpAny_field hos hds (x := vl) rfl (wpAny_bind (wpAny_field hos hds (x := vu) rfl (wpAny_bind (wpAny_field hos hds (x := vs) rfl (wpAny_pure ?_)))))))
    refine wpAny_bind (HT.slicePart_ ps ?_)
    show wpAny _ _ (if ((-1 : Int) == 0) = true then _ else _) _ _ s
    rw [if_neg (by decide)]
    refine wpAny_bind (HT.slicePart_ pl (wpAny_bind (HT.slicePart_ pu (wpAny_bind (wpAny_pure ?_)))))
    show wpAny _ _ (match Builtin.Slice.sliceAdjust none none (-1) (items.size : Int) with | (lo, hi) => pure (lo, (-1 : Int), Builtin.Slice.slicePlaces lo hi (-1))) _ _ s
    rw [rev_adj]
    show wpAny _ _ (pure (((items.size : Int) - 1), (-1 : Int), Builtin.Slice.slicePlaces ((items.size : Int) - 1) (-1) (-1))) _ _ s
    rw [rev_plc]
    exact wpAny_pure ⟨rfl, rfl⟩
  refine wpAny_bind (thn (ap _ _) fun r s' hr => ?_)
  obtain ⟨rfl, rfl⟩ := hr
  have hno : ¬ ((((items.size : Int) - 1) == 0 && (-1 : Int) == 1 && items.size == items.size) = true) := by simp
  show wpAny _ _ (if ((((items.size : Int) - 1) == 0 && (-1 : Int) == 1 && items.size == items.size) = true) then _ else _) _ _ _
  rw [if_neg hno, rev_pick]
  first
    | exact wpAny_bind (m := Builtin.Tuple.tupleExact _) (wpAny_newObj_type (wpAny_pure ⟨_, rfl, wpAny_pure h⟩) htake)
    | exact wpAny_bind (m := Builtin.Tuple.tupleExact _) (wpAny_newObj_type (wpAny_bind (wpAny_pure (wpAny_pure ⟨_, rfl, wpAny_pure h⟩))) htake)
    | exact wpAny_bind (wpAny_bind (m := Builtin.Tuple.tupleExact _) (wpAny_newObj_type (wpAny_pure (wpAny_pure ⟨_, rfl, wpAny_pure h⟩)) htake))
    | exact wpAny_bind (wpAny_bind (m := Builtin.Tuple.tupleExact _) (wpAny_newObj_type (wpAny_pure ⟨_, rfl, wpAny_pure h⟩) htake))
/-- t[::-1], xs[::-1] -/
def tRevA (K : PySem.W.Frag) (te : TE) : TE := fun σ H Q => te σ H fun x H1 => ∃ a xs, x = .ref a ∧ ((SqL K H1 a xs ∧ ∀ p, H1 p = none → Q (.ref p) (upd H1 p (.lst xs.reverse))) ∨ (SqT K H1 a xs ∧ ∀ p, H1 p = none → Q (.ref p) (upd H1 p (.tup xs.reverse))))
theorem pe_revA {e : Expr} {te : TE} {kk : Nat} {p1 p2 p3 pos : Pos} (he : PE X e te) : PE X (.Subscript e (.Slice none none (some (.UnaryOp .USub (.Constant (.int 1) kk p1) p2)) p3) pos) (tRevA X.K te) := by
  refine ⟨fun pins s σ H Q I h => Subscript_ (thn (he.run pins s σ H _ I h) fun v s1 ⟨x, H1, I1, r1, q1⟩ => ?_)⟩
  obtain ⟨a, xs, ex, hx⟩ := q1
  subst ex
  cases r1
  have hst : PO X (some (.UnaryOp .USub (.Constant (.int 1) kk p1) p2)) (tPart (tUn (rU fun i => .int (-i)) (tC (.int 1)))) := po_some (pe_un un_neg pe_int)
  refine wpAny_Slice (thn (po_none.run pins s1 σ H1 (fun o H2 => o = none ∧ H2 = H1) I1 ⟨rfl, rfl⟩) fun vl s2 ⟨l, H2, I2, pl, el, e2⟩ => thn (po_none.run pins s2 σ H2 (fun o H3 => o = none ∧ H3 = H2) I2 ⟨rfl, rfl⟩) fun vu s3 ⟨u, H3, I3, pu, eu, e3⟩ => ?_)
  subst el e2 eu e3
  refine thn (hst.run pins s3 σ _ (fun o H4 => o = some (-1) ∧ H4 = _) I3 ⟨1, rfl, -1, rfl, rfl, rfl⟩) fun vs s4 ⟨o, H4, I4, ps, eo, e4⟩ => ?_
  subst eo e4
  have I5 := I4.kept (h' := s4.heap.push { cls := .type "slice", data := .fields #[vl, vu, vs] }) (t' := s4.toks) fun b ob q => Heap.get?_push_of_some _ q
  show wpAny (model X.prog X.w) X.A (subscriptTail e (.Slice none none (some (.UnaryOp .USub (.Constant (.int 1) kk p1) p2)) p3) (.ref a) (.ref s4.heap.objs.size)) (EP X pins σ Q) X.xe { s4 with heap := s4.heap.push { cls := .type "slice", data := .fields #[vl, vu, vs] } }
  rcases hx with ⟨hx, q⟩ | ⟨hx, q⟩
  · obtain ⟨its, r, ht, hz⟩ := I5.list hx
    have hlen := r.length
    refine tail_any (ops := [.ref a, .ref s4.heap.objs.size]) ht.isList.typeIs (PySem.slot_list_getitem.lookup) ?_ (by with_unfolding_all rfl)
    refine wpAny_getItem_list_slice ht.isList (Heap.IsSliceOf.new _ vl vu vs) pl pu ps (by decide) ?_ (by rw [List.size_toArray]; omega)
    rw [PySem.W.krv_pick]
    refine ⟨.ref _, _, I5.laid (t' := s4.toks) (o := .lst xs.reverse) (fun b ob q => Heap.get?_push_of_some _ q) (Nat.le_refl _) ?_, rfl, q _ (I5.hok.fresh (Nat.le_refl _))⟩
    exact ⟨by rw [List.length_reverse]; exact hz, _, 0, r.reverse, Heap.get?_push_size _ rfl⟩
  · obtain ⟨its, r, ht, hz⟩ := I5.tuple hx
    have hlen := r.length
    refine tail_any (ops := [.ref a, .ref s4.heap.objs.size]) ht.typeIs (PyProof.Rows.slot_tuple_getitem.lookup) ?_ (by with_unfolding_all rfl)
    refine getItem_tuple_rev ht (Heap.IsSliceOf.new _ vl vu vs) pl pu ps ?_ (by rw [List.size_toArray]; omega)
    refine ⟨.ref _, _, I5.laid (t' := s4.toks) (o := .tup xs.reverse) (fun b ob q => Heap.get?_push_of_some _ q) (Nat.le_refl _) ?_, rfl, q _ (I5.hok.fresh (Nat.le_refl _))⟩
    exact ⟨by rw [List.length_reverse]; exact hz, _, r.reverse, IsTup.new _ _⟩
theorem me_rev (M : Mx X Z G k W t) {kk : Nat} {p1 p2 p3 : Pos} (ha : ME X Z G W a₀ ia) : ME X Z G W (.Subscript a₀ (.Slice none none (some (.UnaryOp .USub (.Constant (.int 1) kk p1) p2)) p3) pos) (.rev ia) :=
  PE.imp (pe_revA ha) fun τ H Q ⟨σ, S, Qa, E, er, sr, w, q, qe⟩ => by
    refine ⟨σ, S, _, E, er, sr, w, fun d v S1 H1 k1 sr1 rd1 w1 => ?_, qe⟩
    unfold revW at w1
    dsimp only at w1
    split at w1
    · cases rd1 with
      | tup t rs => exact ⟨_, _, rfl, .inr ⟨by rw [← M.F.zk]; exact t.sq, (q.keep k1).newT sr1 rs.reverse w1⟩⟩
    · cases rd1
      obtain ⟨ds, e, w1⟩ := w1
      obtain ⟨vs, sq, rs⟩ := rdAt (K := X.K) sr1 e
      exact ⟨_, _, rfl, .inl ⟨sq, (q.keep k1).newL sr1 rs.reverse w1⟩⟩
    · exact w1.elim
/-! ### what loops go over -/
theorem mi_sq (M : Mx X Z G k W t) (ha : ME X Z G W a₀ ia) : MI X Z G W tg a₀ (.sq ia) := si_sq M.F.zk ha
theorem mi_rng (M : Mx X Z G k W t) {x : Str} (hb : ME X Z G W b₀ ib) (hx : x = "range" := by decide +kernel) (hg : Gl X x := by rfl) (hm : Z.nob.contains x = true := by rfl) (hs : starEach [b₀] X.env = [(false, eval b₀ X.env)] := by rfl) : MI X Z G W tg (.Call (.Name x p) [b₀] [] pos) (.rng ib) := by
  subst hx; exact si_rng hg (M.T.no _ (inb hm)) hb hs
theorem mi_rng2 (M : Mx X Z G k W t) {x : Str} (ha : ME X Z G W a₀ ia) (hb : ME X Z G W b₀ ib) (hx : x = "range" := by decide +kernel) (hg : Gl X x := by rfl) (hm : Z.nob.contains x = true := by rfl) (hs : starEach [a₀, b₀] X.env = [(false, eval a₀ X.env), (false, eval b₀ X.env)] := by rfl) (hs2 : starEach [b₀] X.env = [(false, eval b₀ X.env)] := by rfl) :
    MI X Z G W tg (.Call (.Name x p) [a₀, b₀] [] pos) (.rng2 ia ib) := by
  subst hx; exact si_rng2 hg (M.T.no _ (inb hm)) ha hb hs hs2
theorem mi_enum (M : Mx X Z G k W t) {x : Str} {elts : List Expr} {kk : Nat} {tp : Pos} (ha : ME X Z G W a₀ ia) (hx : x = "enumerate" := by decide +kernel) (hg : Gl X x := by rfl) (hm : Z.nob.contains x = true := by rfl) (hs : starEach [a₀] X.env = [(false, eval a₀ X.env)] := by rfl) (hs2 : starEach [a₀] X.env = (false, eval a₀ X.env) :: starEach [] X.env := by rfl) :
    MI X Z G W (.Tuple elts kk tp) (.Call (.Name x p) [a₀] [] pos) (.enum ia) := by
  subst hx; exact si_enum M.F.zk hg (M.T.no _ (inb hm)) ha hs hs2
theorem mi_zip (M : Mx X Z G k W t) {x : Str} {elts : List Expr} {kk : Nat} {tp : Pos} (ha : ME X Z G W a₀ ia) (hb : ME X Z G W b₀ ib) (hx : x = "zip" := by decide +kernel) (hg : Gl X x := by rfl) (hm : Z.nob.contains x = true := by rfl) (hs : starEach [a₀, b₀] X.env = (false, eval a₀ X.env) :: starEach [b₀] X.env := by rfl) (hs2 : starEach [b₀] X.env = (false, eval b₀ X.env) :: starEach [] X.env := by rfl)
    (hpl : (backTo pos (starEach [b₀] X.env)).any (·.1) = false := by rfl) : MI X Z G W (.Tuple elts kk tp) (.Call (.Name x p) [a₀, b₀] [] pos) (.zip ia ib) := by
  subst hx; exact si_zip M.F.zk hg (M.T.no _ (inb hm)) ha hb hs hs2 hpl
theorem me_lzip (M : Mx X Z G k W t) {x y : Str} {p2 pos2 : Pos} (ha : ME X Z G W a₀ ia) (hb : ME X Z G W b₀ ib) (hx : x = "list" := by decide +kernel) (hy : y = "zip" := by decide +kernel) (hg : Gl X x := by rfl) (hm : Z.nob.contains x = true := by rfl) (hg2 : Gl X y := by rfl) (hm2 : Z.nob.contains y = true := by rfl)
    (hs : starEach [a₀, b₀] X.env = (false, eval a₀ X.env) :: starEach [b₀] X.env := by rfl) (hs2 : starEach [b₀] X.env = (false, eval b₀ X.env) :: starEach [] X.env := by rfl) (hpl : (backTo pos2 (starEach [b₀] X.env)).any (·.1) = false := by rfl) :
    ME X Z G W (.Call (.Name x p) [.Call (.Name y p2) [a₀, b₀] [] pos2] [] pos) (.lzip ia ib) := by
  subst hx; subst hy
  refine PE.imp (ZM.pe_lzip (Z := Z) M.F.zk M.calm hg (M.T.no _ (inb hm)) hg2 (M.T.no _ (inb hm2)) (pa_cons ha (pa_cons hb pa_nil hs2) hs) hs hpl) fun τ H Q ⟨σ, S, Qa, E, er, sr, w, q, qe⟩ => ?_
  refine two_ok (R := fun x y H2 => ∃ (a b : Addr) (ds es : List D) (S : Sto), ([x, y] : List V) = [.ref a, .ref b] ∧ SR Z S H2 ∧ rd S a = some ds ∧ (∃ us, TupAt X.K H2 b us ∧ RDs Z H2 es us) ∧ (zipD ds es).length < sizeLine ∧ ∀ q H', S q = none → TK H2 H' → SR Z (S.upd q (.lst (zipD ds es))) H' → Q (.ref q) H') er sr w qe fun {S2 H2 x y v u} k sr' rx ry h => ?_
  unfold lzW at h
  split at h
  · rename_i a es
    obtain ⟨ds, e1, e2, h⟩ := h
    cases rx
    cases ry with
    | tup ht ru =>
      exact ⟨a, _, ds, es, S2, rfl, sr', e1, ⟨_, M.F.zk ▸ ht, ru⟩, e2, fun q' H' hq tk sr2 => q _ _ _ H' (k.trans tk) sr2 .ref (h q' hq)⟩
  · exact h.elim
/-! ### comprehensions -/
theorem mc_none : MC X Z G [] .none := sc_none
theorem mc_some (ha : MT X Z G W0 a₀ ia) : MC X Z G [a₀] (.some ia) := sc_some ha
theorem mg_name (M : Mx X Z G k W t) (i : Nat) {x : Str} (hi : X.N[i]? = some x := by rfl) (hx : Loc X.env.scope x := by first | exact Or.inl rfl | exact Or.inr rfl) (hf : X.fn x = true ∨ X.env.scope.names.lookup x = some .local := by first | exact Or.inl rfl | exact Or.inr rfl) : PG X (.Name x p) (gTg X.K (.nm i)) := tg_name M.nd hi hx hf
theorem mg_nil (M : Mx X Z G k W t) : PGs X [] (gIs []) := tg_nil
theorem mg_cons (M : Mx X Z G k W t) {i : Nat} {is : List Nat} {x : Str} {es : List Expr} (h : PGs X es (gIs is)) (hi : X.N[i]? = some x := by rfl) (hx : Loc X.env.scope x := by first | exact Or.inl rfl | exact Or.inr rfl) (hf : X.fn x = true ∨ X.env.scope.names.lookup x = some .local := by first | exact Or.inl rfl | exact Or.inr rfl)
    (hs : (assignEach (.Name x p :: es) X.env).map (·.2) = assign (.Name x p) X.env :: (assignEach es X.env).map (·.2) := by rfl) : PGs X (.Name x p :: es) (gIs (i :: is)) := tg_cons M.nd hi hx hf h hs
theorem mg_tup (M : Mx X Z G k W t) {is : List Nat} {es : List Expr} {kk : Nat} (h : PGs X es (gIs is)) (hn : (assignEach es X.env).length = is.length := by rfl) (hst : (assignEach es X.env).findIdx? (·.1) = none := by rfl) : PG X (.Tuple es kk pos) (gTg X.K (.tp is)) := pgs_names h M.calm hn hst
theorem Mx.blk (M : Mx X Z G k W t) (s : Shared) (H : Hp) (C : Addr) (cl : List (Str × Addr)) (fp : List Addr) {scope : Scope} : Mx (X.blk s H scope (compEnvC scope cl C X.env) fp) Z G k W0 false := ⟨M.F, M.T, takes0, M.calm, M.nd, PassesOwn.never, fun _ _ _ _ _ _ h => h⟩
theorem me_lc (M : Mx X Z G k W t) {elt iter : Expr} {ifs : List Expr} {scope : Scope} (own : List (Str × Nat)) {ii : Itr} {it : Exo} {tt : Tg} (hi : MI X Z G W tg iter ii)
    (hg : ∀ (s : Shared) (H : Hp) (C : Addr) (cl : List (Str × Addr)) (fp : List Addr), Mx (X.blk s H scope (compEnvC scope cl C X.env) fp) Z G k W0 false → PG (X.blk s H scope (compEnvC scope cl C X.env) fp) tg (gTg X.K tt))
    (ht : ∀ (s : Shared) (H : Hp) (C : Addr) (cl : List (Str × Addr)) (fp : List Addr), Mx (X.blk s H scope (compEnvC scope cl C X.env) fp) Z G k W0 false → MC (X.blk s H scope (compEnvC scope cl C X.env) fp) Z G ifs it)
    (he : ∀ (s : Shared) (H : Hp) (C : Addr) (cl : List (Str × Addr)) (fp : List Addr), Mx (X.blk s H scope (compEnvC scope cl C X.env) fp) Z G k W0 false → ME (X.blk s H scope (compEnvC scope cl C X.env) fp) Z G W0 elt ie)
    (ok : blkC X.N X.env.scope scope own = true := by rfl) (ho : own.map (·.2) = tt.slots := by rfl) (hs : ∀ x, foldedSetIterable iter X.env x = pure x := by intro _; rfl) : ME X Z G W (.ListComp elt [⟨tg, iter, ifs, 0⟩] scope pos) (.lc ie tt ii it) :=
  se_lc M.F.zk M.calm M.nd hi (blkOk_by ok) ho (fun s H C cl fp => hg s H C cl fp (M.blk s H C cl fp)) (fun s H C cl fp => ht s H C cl fp (M.blk s H C cl fp)) (fun s H C cl fp => he s H C cl fp (M.blk s H C cl fp)) hs
theorem me_dc (M : Mx X Z G k W t) {kx vx iter : Expr} {ifs : List Expr} {scope : Scope} (own : List (Str × Nat)) {ii : Itr} {it : Exo} {tt : Tg} (hi : MI X Z G W tg iter ii)
    (hg : ∀ (s : Shared) (H : Hp) (C : Addr) (cl : List (Str × Addr)) (fp : List Addr), Mx (X.blk s H scope (compEnvC scope cl C X.env) fp) Z G k W0 false → PG (X.blk s H scope (compEnvC scope cl C X.env) fp) tg (gTg X.K tt))
    (ht : ∀ (s : Shared) (H : Hp) (C : Addr) (cl : List (Str × Addr)) (fp : List Addr), Mx (X.blk s H scope (compEnvC scope cl C X.env) fp) Z G k W0 false → MC (X.blk s H scope (compEnvC scope cl C X.env) fp) Z G ifs it)
    (hk : ∀ (s : Shared) (H : Hp) (C : Addr) (cl : List (Str × Addr)) (fp : List Addr), Mx (X.blk s H scope (compEnvC scope cl C X.env) fp) Z G k W0 false → ME (X.blk s H scope (compEnvC scope cl C X.env) fp) Z G W0 kx ia)
    (he : ∀ (s : Shared) (H : Hp) (C : Addr) (cl : List (Str × Addr)) (fp : List Addr), Mx (X.blk s H scope (compEnvC scope cl C X.env) fp) Z G k W0 false → ME (X.blk s H scope (compEnvC scope cl C X.env) fp) Z G W0 vx ie)
    (ok : blkC X.N X.env.scope scope own = true := by rfl) (ho : own.map (·.2) = tt.slots := by rfl) (hs : ∀ x, foldedSetIterable iter X.env x = pure x := by intro _; rfl) : ME X Z G W (.DictComp kx vx [⟨tg, iter, ifs, 0⟩] scope pos) (.dc ia ie tt ii it) :=
  se_dc M.F.zk M.calm M.nd hi (blkOk_by ok) ho (fun s H C cl fp => hg s H C cl fp (M.blk s H C cl fp)) (fun s H C cl fp => ht s H C cl fp (M.blk s H C cl fp)) (fun s H C cl fp => hk s H C cl fp (M.blk s H C cl fp)) (fun s H C cl fp => he s H C cl fp (M.blk s H C cl fp)) hs
/-! ### statements -/
theorem mb_nil (M : Mx X Z G k W t) : MB X Z G W [] .nil := ss_nil
theorem mb_cons (M : Mx X Z G k W t) {s : Stmt} {ss : List Stmt} {i : Stm} {js : Stms} (h1 : MS X Z G W s i) (h2 : MB X Z G W ss js) : MB X Z G W (s :: ss) (.cons i js) := ss_cons (w1 := wpS G i) (w2 := wpSs G js) h1 h2
theorem ms_pass (M : Mx X Z G k W t) : MS X Z G W (.Pass pos) .pass := ss_pass
theorem ms_brk (M : Mx X Z G k W t) : MS X Z G W (.Break pos) .brk := ss_brk
theorem ms_cnt (M : Mx X Z G k W t) : MS X Z G W (.Continue pos) .cnt := ss_cnt
theorem ms_ret (M : Mx X Z G k W t) (ha : ME X Z G W a₀ ia) : MS X Z G W (.Return (some a₀) pos) (.ret ia) := ss_ret ha
theorem ms_retN (M : Mx X Z G k W t) : MS X Z G W (.Return none pos) (.ret (.lit .non)) := ss_retN
theorem ms_ex (M : Mx X Z G k W t) (ha : ME X Z G W a₀ ia) (hs : swapsWith a₀ none pos.line X.env = pure false := by rfl) : MS X Z G W (.Expr a₀ pos) (.ex ia) := ss_ex ha hs
theorem ms_set (M : Mx X Z G k W t) (i : Nat) {x : Str} (ha : ME X Z G W a₀ ia) (hi : X.N[i]? = some x := by rfl) (hx : Loc X.env.scope x := by first | exact Or.inl rfl | exact Or.inr rfl) (hf : X.fn x = true ∨ X.env.scope.names.lookup x = some .local := by first | exact Or.inl rfl | exact Or.inr rfl)
    (hs : swapsWith a₀ (some (.Name x p)) pos.line X.env = pure false := by rfl) : MS X Z G W (.Assign [.Name x p] a₀ pos) (.set i ia) := ss_set M.nd hi hx hf ha hs
theorem ms_setLc (M : Mx X Z G k W t) (i : Nat) {y : Str} {elt iter : Expr} {ifs : List Expr} {scope : Scope} (own : List (Str × Nat)) {ii : Itr} {it : Exo} {tt : Tg} (hi : MI X Z G W tg iter ii)
    (hg : ∀ (s : Shared) (H : Hp) (C : Addr) (cl : List (Str × Addr)) (fp : List Addr), Mx (X.blk s H scope (compEnvC scope cl C X.env) fp) Z G k W0 false → PG (X.blk s H scope (compEnvC scope cl C X.env) fp) tg (gTg X.K tt))
    (ht : ∀ (s : Shared) (H : Hp) (C : Addr) (cl : List (Str × Addr)) (fp : List Addr), Mx (X.blk s H scope (compEnvC scope cl C X.env) fp) Z G k W0 false → MC (X.blk s H scope (compEnvC scope cl C X.env) fp) Z G ifs it)
    (he : ∀ (s : Shared) (H : Hp) (C : Addr) (cl : List (Str × Addr)) (fp : List Addr), Mx (X.blk s H scope (compEnvC scope cl C X.env) fp) Z G k W0 false → ME (X.blk s H scope (compEnvC scope cl C X.env) fp) Z G W0 elt ie)
    (hy : X.N[i]? = some y := by rfl) (hyl : X.env.scope.names.lookup y = some .local := by rfl) (hsw : swapsWith (.ListComp elt [⟨tg, iter, ifs, 0⟩] scope pos) (some (.Name y p)) apos.line X.env = pure true := by rfl)
    (ok : blkC X.N X.env.scope scope own = true := by rfl) (ho : own.map (·.2) = tt.slots := by rfl) (hs : ∀ x, foldedSetIterable iter X.env x = pure x := by intro _; rfl) : MS X Z G W (.Assign [.Name y p] (.ListComp elt [⟨tg, iter, ifs, 0⟩] scope pos) apos) (.set i (.lc ie tt ii it)) :=
  ss_setLc M.F.zk M.calm M.nd hy hyl hsw hi (blkOk_by ok) ho (fun s H C cl fp => hg s H C cl fp (M.blk s H C cl fp)) (fun s H C cl fp => ht s H C cl fp (M.blk s H C cl fp)) (fun s H C cl fp => he s H C cl fp (M.blk s H C cl fp)) hs
theorem ms_unp (M : Mx X Z G k W t) {is : List Nat} {es : List Expr} {kk : Nat} {tp : Pos} (hg : PG X (.Tuple es kk tp) (gTg X.K (.tp is))) (ha : ME X Z G W a₀ ia) (hs : swapsWithSole [.Tuple es kk tp] a₀ pos.line X.env = pure false := by rfl) (hw : swappedStores [.Tuple es kk tp] a₀ X.env = pure none := by rfl)
    (h1 : (assignEach [.Tuple es kk tp] X.env).map (·.2) = [assign (.Tuple es kk tp) X.env] := by rfl) : MS X Z G W (.Assign [.Tuple es kk tp] a₀ pos) (.unp is ia) := ss_unp M.F.zk hg ha hs hw h1
theorem ms_unpl (M : Mx X Z G k W t) {is : List Nat} {es : List Expr} {kk : Nat} {tp : Pos} (h : PGs X es (gIs is)) (ha : ME X Z G W a₀ ia) (hn : (assignEach es X.env).length = is.length := by rfl) (hst : (assignEach es X.env).findIdx? (·.1) = none := by rfl) (hs : swapsWithSole [.Tuple es kk tp] a₀ pos.line X.env = pure false := by rfl) (hw : swappedStores [.Tuple es kk tp] a₀ X.env = pure none := by rfl)
    (h1 : (assignEach [.Tuple es kk tp] X.env).map (·.2) = [assign (.Tuple es kk tp) X.env] := by rfl) : MS X Z G W (.Assign [.Tuple es kk tp] a₀ pos) (.unpl is ia) := ss_unpl M.F.zk (pg_lst M.calm h hn hst) ha hs hw h1
theorem ms_par (M : Mx X Z G k W t) (i j : Nat) {x y : Str} {px py pt : Pos} {kt k2 : Nat} {pt2 : Pos} (ha : MA X Z G W [a₀, b₀] is) (hij : i ≠ j := by decide) (hi : X.N[i]? = some x := by rfl) (hj : X.N[j]? = some y := by rfl) (hx : X.env.scope.names.lookup x = some .local := by rfl) (hy : X.env.scope.names.lookup y = some .local := by rfl)
    (hw : swappedStores [.Tuple [.Name x px, .Name y py] kt pt] (.Tuple [a₀, b₀] k2 pt2) X.env = pure (some [x, y]) := by rfl) (hs : swapsWithSole [.Tuple [.Name x px, .Name y py] kt pt] (.Tuple [a₀, b₀] k2 pt2) pos.line X.env = pure false := by rfl) :
    MS X Z G W (.Assign [.Tuple [.Name x px, .Name y py] kt pt] (.Tuple [a₀, b₀] k2 pt2) pos) (.unp [i, j] (.tup is)) := ss_par M.calm M.nd hi hj hij hx hy ha hw hs
theorem ms_par3 (M : Mx X Z G k W t) (i j l : Nat) {x y z : Str} {px py pz pt : Pos} {kt k2 : Nat} {pt2 : Pos} (ha : MA X Z G W [a₀, b₀, c₀] is) (hij : i ≠ j := by decide) (hil : i ≠ l := by decide) (hjl : j ≠ l := by decide) (hi : X.N[i]? = some x := by rfl) (hj : X.N[j]? = some y := by rfl) (hl : X.N[l]? = some z := by rfl) (hx : X.env.scope.names.lookup x = some .local := by rfl) (hy : X.env.scope.names.lookup y = some .local := by rfl) (hz : X.env.scope.names.lookup z = some .local := by rfl)
    (hw : swappedStores [.Tuple [.Name x px, .Name y py, .Name z pz] kt pt] (.Tuple [a₀, b₀, c₀] k2 pt2) X.env = pure (some [x, y, z]) := by rfl) (hs : swapsWithSole [.Tuple [.Name x px, .Name y py, .Name z pz] kt pt] (.Tuple [a₀, b₀, c₀] k2 pt2) pos.line X.env = pure false := by rfl) :
    MS X Z G W (.Assign [.Tuple [.Name x px, .Name y py, .Name z pz] kt pt] (.Tuple [a₀, b₀, c₀] k2 pt2) pos) (.unp [i, j, l] (.tup is)) := ss_par3 M.calm M.nd hi hj hl hij hil hjl hx hy hz ha hw hs
theorem ms_unpa (M : Mx X Z G k W t) {f g : Nat} {x y : Str} {kk : Nat} {p1 p2 tp : Pos} (ha : ME X Z G W a₀ ia) (ho : ME X Z G W b₀ ib) (ho2 : ME X Z G W c₀ ic) (hf : Nat.blt f Z.nf = true := by rfl) (hg : Nat.blt g Z.nf = true := by rfl) (hx : x = Z.fld f := by rfl) (hy : y = Z.fld g := by rfl)
    (hs : swapsWithSole [.Tuple [.Attribute b₀ x p1, .Attribute c₀ y p2] kk tp] a₀ pos.line X.env = pure false := by rfl) (hw : swappedStores [.Tuple [.Attribute b₀ x p1, .Attribute c₀ y p2] kk tp] a₀ X.env = pure none := by rfl)
    (h1 : (assignEach [.Tuple [.Attribute b₀ x p1, .Attribute c₀ y p2] kk tp] X.env).map (·.2) = [assign (.Tuple [.Attribute b₀ x p1, .Attribute c₀ y p2] kk tp) X.env] := by rfl) (hn : (assignEach [.Attribute b₀ x p1, .Attribute c₀ y p2] X.env).length = 2 := by rfl) (hst : (assignEach [.Attribute b₀ x p1, .Attribute c₀ y p2] X.env).findIdx? (·.1) = none := by rfl)
    (h2 : (assignEach [.Attribute b₀ x p1, .Attribute c₀ y p2] X.env).map (·.2) = assign (.Attribute b₀ x p1) X.env :: (assignEach [.Attribute c₀ y p2] X.env).map (·.2) := by rfl) (h3 : (assignEach [.Attribute c₀ y p2] X.env).map (·.2) = assign (.Attribute c₀ y p2) X.env :: (assignEach [] X.env).map (·.2) := by rfl) :
    MS X Z G W (.Assign [.Tuple [.Attribute b₀ x p1, .Attribute c₀ y p2] kk tp] a₀ pos) (.unpa ib f ic g ia) := ss_unpa M.F M.calm (ltb hf) (ltb hg) hx hy ha ho ho2 hs hw h1 hn hst h2 h3
theorem ms_setix (M : Mx X Z G k W t) {tp : Pos} (hv : ME X Z G W a₀ ia) (ho : ME X Z G W b₀ ib) (hi : ME X Z G W c₀ ic)
    (ha : ∀ v, assign (.Subscript b₀ c₀ tp) X.env v = (do
      let ov ← holding [v] (eval b₀ X.env)
      let iv ← holding [v, ov] (eval c₀ X.env)
      standAt tp
      holding [v, ov, iv] (setItem ov iv v)
      release [v, ov, iv] []) := by intro _; rfl)
    (hs : swapsWithSole [.Subscript b₀ c₀ tp] a₀ pos.line X.env = pure false := by rfl) (hw : swappedStores [.Subscript b₀ c₀ tp] a₀ X.env = pure none := by rfl) (h1 : (assignEach [.Subscript b₀ c₀ tp] X.env).map (·.2) = [assign (.Subscript b₀ c₀ tp) X.env] := by rfl) :
    MS X Z G W (.Assign [.Subscript b₀ c₀ tp] a₀ pos) (.setix ib ic ia) := ss_setix (by have := M.F.hu; omega) hv ho hi ha hs hw h1
theorem ms_aug (M : Mx X Z G k W t) (i : Nat) {x : Str} {op : Bop} {o : Operator} (ha : ME X Z G W a₀ ia) (ho : o = bopOf op := by rfl) (hi : X.N[i]? = some x := by rfl) (hx : Loc X.env.scope x := by first | exact Or.inl rfl | exact Or.inr rfl) (hf : X.fn x = true ∨ X.env.scope.names.lookup x = some .local := by first | exact Or.inl rfl | exact Or.inr rfl) :
    MS X Z G W (.AugAssign (.Name x p) o a₀ pos) (.aug i op ia) := ss_aug M.F.zk M.nd hi hx hf ha ho
theorem ms_setat (M : Mx X Z G k W t) {f : Nat} {x : Str} (hv : ME X Z G W a₀ ia) (ho : ME X Z G W b₀ ib) (hf : Nat.blt f Z.nf = true := by rfl) (hx : x = Z.fld f := by rfl) (hs : swapsWith a₀ (some (.Attribute b₀ x p)) pos.line X.env = pure false := by rfl) : MS X Z G W (.Assign [.Attribute b₀ x p] a₀ pos) (.setat ib f ia) := ss_setat M.F (ltb hf) hx hv ho hs
theorem ms_augat (M : Mx X Z G k W t) {f : Nat} {x : Str} {op : Bop} {o : Operator} (hv : ME X Z G W a₀ ia) (ho : ME X Z G W b₀ ib) (hf : Nat.blt f Z.nf = true := by rfl) (hx : x = Z.fld f := by rfl) (hop : o = bopOf op := by rfl) : MS X Z G W (.AugAssign (.Attribute b₀ x p) o a₀ pos) (.augat ib f op ia) := ss_augat M.F (ltb hf) hx hv ho hop
theorem ms_ife (M : Mx X Z G k W t) {s1 s2 : List Stmt} {j1 j2 : Stms} (hc : MT X Z G W c₀ ic) (h1 : MB X Z G W s1 j1) (h2 : MB X Z G W s2 j2) : MS X Z G W (.If c₀ s1 s2 pos) (.ife ic j1 j2) := ss_ife hc h1 h2
theorem ms_whl (M : Mx X Z G k W t) {body : List Stmt} {jb : Stms} (hc : MT X Z G W c₀ ic) (hb : MB X Z G W body jb) : MS X Z G W (.While c₀ body [] pos) (.whl ic jb) := ss_whl M.hp hc hb
theorem ms_for (M : Mx X Z G k W t) {body : List Stmt} {iter : Expr} {ii : Itr} {jb : Stms} {tt : Tg} (hi : MI X Z G W tg iter ii) (hg : PG X tg (gTg X.K tt)) (hb : MB X Z G W body jb) (hs : ∀ x, foldedSetIterable iter X.env x = pure x := by intro _; rfl) : MS X Z G W (.For tg iter body [] pos) (.for_ tt ii jb) := ss_for M.F.zk M.hp M.calm hi hg hb hs
/-! ### exceptions -/
/-- what is known of the exceptions' classes: without __init__ -/
structure X0 (K : PySem.W.Frag) (Z : Nm) (G : Gam) (c : Nat) : Prop where
  cn : Z.nc ≤ c ∧ c < Z.nx
  fl : G.xfl c = []
  q : PySem.W.excIn K (Z.cla c) [.type "ValueError", .type "Exception", .type "BaseException", .type "object"] "ValueError.__new__" = true
  ex : PySem.W.subIn K (.ref (Z.cla c)) (.type "BaseException") = some true
  ty : PySem.W.typeIn K (.ref (Z.cla c)) = some (.type "type")
theorem ms_raise0 (M : Mx X Z G k W t) {c : Nat} {x : Str} (h : X0 X.K Z G c) (hx : x = Z.cln c := by rfl) (hg : Gl X x := by rfl) (hdb : (x == ("__debug__" : Str)) = false := by decide +kernel) : MS X Z G W (.Raise (some (.Call (.Name x p) [] [] apos)) none pos) (.raise c .nil) := by
  subst hx; exact ss_raise0 M.calm M.tk h.cn h.fl PySem.F.excBase_ValueError h.q (M.T.cl c h.cn.2).1 (M.T.cl c h.cn.2).2 (raises_own h.ex h.ty) hg hdb
/-- with its own __init__, at f -/
structure X1 (P : Program) (w : World) (K : PySem.W.Frag) (mg : Str → Option Value) (base : Heap) (Z : Nm) (G : Gam) (c : Nat) : Prop where
  cn : Z.nc ≤ c ∧ c < Z.nx
  fl : ∀ f ∈ G.xfl c, f < Z.nf
  sm : (G.xfl c).length ≤ 1000
  T : OexC K (Z.cla c)
  ini : ∃ f fd ps, PySem.W.findIn K (.ref (Z.cla c)) "__init__" = some (some (.ref f)) ∧ PySem.W.typeIn K (.ref f) = some (.type "function") ∧ FnOk P w K mg base (L2.CX P w) 1 f fd ps (SpI (Z.cla c) ((G.xfl c).map Z.fld)) ∧ Binds K fd ps []
theorem ms_raiseI (M : Mx X Z G k W t) {c : Nat} {x : Str} (hk : 2 ≤ k) (h : X1 X.prog X.w X.K X.mg X.base Z G c) (ha : MA X Z G W (e₀ :: es₀) is) (hx : x = Z.cln c := by rfl) (hg : Gl X x := by rfl) (hdb : (x == ("__debug__" : Str)) = false := by decide +kernel)
    (he : starEach (e₀ :: es₀) X.env = (false, eval e₀ X.env) :: starEach es₀ X.env := by rfl) (hpl : (backTo apos (starEach es₀ X.env)).any (·.1) = false := by rfl) : MS X Z G W (.Raise (some (.Call (.Name x p) (e₀ :: es₀) [] apos)) none pos) (.raise c is) := by
  subst hx
  obtain ⟨f, fd, ps, h1, h2, h3, h4⟩ := h.ini
  exact ss_raiseI (fI := 0) (j := 0) M.calm M.tk h.cn h.fl h.T h1 h2 h3 M.F.room.room h4 hg (M.T.cl c h.cn.2).1 ha hdb he hpl h.sm
end
end Mini
end L2
/-! Mini, part O: try over the small language; the levels; the law's end -/
namespace L2
namespace Mini
open PySem PySem.Spec PyProof.Rows
theorem btw {a b c : Nat} (h : (Nat.ble a b && Nat.blt b c) = true) : a ≤ b ∧ b < c := by
  rw [Bool.and_eq_true] at h
  exact ⟨Nat.le_of_ble_eq_true h.1, ltb h.2⟩
/-- what is known of all exceptions -/
structure Xal (P : Program) (w : World) (K : PySem.W.Frag) (mg : Str → Option Value) (base : Heap) (Z : Nm) (G : Gam) : Prop where
  x0 : ∀ c, Z.nc ≤ c ∧ c < Z.nx → G.xfl c = [] → X0 K Z G c
  x1 : ∀ c, Z.nc ≤ c ∧ c < Z.nx → G.xfl c ≠ [] → X1 P w K mg base Z G c
  exm : ∀ c, Z.nc ≤ c ∧ c < Z.nx → ExmOk K Z G c
  xf : ∀ f, f < Z.nfx → XfsOk K Z f
abbrev XA (X : Cx) (Z : Nm) (G : Gam) : Prop := Xal X.prog X.w X.K X.mg X.base Z G
section
variable {X : Cx} {Z : Nm} {G : Gam} {k : Nat} {W : WX} {t : Bool} {a₀ b₀ c₀ e₀ tg : Expr} {es₀ : List Expr} {ia ib ic ie : Ex} {is : Exs} {pos apos p : Pos}
theorem ms_r0 (M : Mx X Z G k W t) (A : XA X Z G) {c : Nat} {x : Str} (hc : (Nat.ble Z.nc c && Nat.blt c Z.nx) = true := by rfl) (hl : Z.xfl c = [] := by rfl) (hx : x = Z.cln c := by rfl) (hg : Gl X x := by rfl) (hdb : (x == ("__debug__" : Str)) = false := by decide +kernel) : MS X Z G W (.Raise (some (.Call (.Name x p) [] [] apos)) none pos) (.raise c .nil) :=
  ms_raise0 M (A.x0 c (btw hc) (by rw [M.T.xf]; exact hl)) hx hg hdb
theorem ms_r1 (M : Mx X Z G (k + 2) W t) (A : XA X Z G) {c : Nat} {x : Str} (ha : MA X Z G W (e₀ :: es₀) is) (hc : (Nat.ble Z.nc c && Nat.blt c Z.nx) = true := by rfl) (hl : (Z.xfl c).isEmpty = false := by rfl) (hx : x = Z.cln c := by rfl) (hg : Gl X x := by rfl) (hdb : (x == ("__debug__" : Str)) = false := by decide +kernel)
    (he : starEach (e₀ :: es₀) X.env = (false, eval e₀ X.env) :: starEach es₀ X.env := by rfl) (hpl : (backTo apos (starEach es₀ X.env)).any (·.1) = false := by rfl) : MS X Z G W (.Raise (some (.Call (.Name x p) (e₀ :: es₀) [] apos)) none pos) (.raise c is) :=
  ms_raiseI M (Nat.le_add_left 2 k) (A.x1 c (btw hc) (by rw [M.T.xf]; intro q; rw [q] at hl; cases hl)) ha hx hg hdb he hpl
theorem Mx.tr (M : Mx X Z G k W t) (W' : WX) (pn : List (Addr × Obj)) (xe : Value → Shared → Prop) (tk : Takes (X.tr pn xe) W') (hp : PassesOwn (model X.prog X.w) X.A X.env xe) : Mx (X.tr pn xe) Z G k W' true := ⟨M.F, M.T, tk, M.calm, M.nd, hp, fun h => Bool.noConfusion h⟩
theorem mh_nil (M : Mx X Z G k W t) : HsOk X Z W G [] [] := hs_nil
theorem nam_of (M : Mx X Z G k W t) {c : Nat} {x : Str} (hc : c < Z.nx) (hx : x = Z.cln c) (hg : Gl X x) (hdb : (x == ("__debug__" : Str)) = false) : Names X x (.ref (Z.cla c)) := ⟨hg, hdb, .inl (by rw [hx]; exact (M.T.cl c hc).1)⟩
theorem mh_ret (M : Mx X Z G k W t) (A : XA X Z G) {c : Nat} {x : Str} {np p1 : Pos} {hds : List ExceptHandler} {hs : List (Nat × Su)} {e : Expr} {d : D} {v : V} (he : ∀ (a : Addr) (pn : List (Addr × Obj)), PE (X.suite a pn) e (tC v)) (rd : ∀ H, RD Z H d v) (r : HsOk X Z W G hds hs)
    (hc : (Nat.ble Z.nc c && Nat.blt c Z.nx) = true := by rfl) (hx : x = Z.cln c := by rfl) (hg : Gl X x := by rfl) (hdb : (x == ("__debug__" : Str)) = false := by decide +kernel) : HsOk X Z W G (.ExceptHandler (some (.Name x np)) none [.Return (some e) pos] p1 :: hds) ((c, .ret (.lit d)) :: hs) :=
  hs_ret (A.exm c (btw hc)) (nam_of M (btw hc).2 hx hg hdb) he rd r
theorem mh_retS (M : Mx X Z G k W t) (A : XA X Z G) {c : Nat} {x y : Str} {l : List Nat} {np p1 p2 : Pos} {j : Nat} {hds : List ExceptHandler} {hs : List (Nat × Su)} (r : HsOk X Z W G hds hs) (h : y = st l := by decide +kernel)
    (hc : (Nat.ble Z.nc c && Nat.blt c Z.nx) = true := by rfl) (hx : x = Z.cln c := by rfl) (hg : Gl X x := by rfl) (hdb : (x == ("__debug__" : Str)) = false := by decide +kernel) : HsOk X Z W G (.ExceptHandler (some (.Name x np)) none [.Return (some (.Constant (.str y) j p2)) pos] p1 :: hds) ((c, .ret (.lit (.str l))) :: hs) := by
  subst h; exact mh_ret M A (fun a pn => pe_str) (fun _ => .str) r hc hx hg hdb
theorem mh_retB (M : Mx X Z G k W t) (A : XA X Z G) {c : Nat} {x : Str} {b : Bool} {np p1 p2 : Pos} {j : Nat} {hds : List ExceptHandler} {hs : List (Nat × Su)} (r : HsOk X Z W G hds hs)
    (hc : (Nat.ble Z.nc c && Nat.blt c Z.nx) = true := by rfl) (hx : x = Z.cln c := by rfl) (hg : Gl X x := by rfl) (hdb : (x == ("__debug__" : Str)) = false := by decide +kernel) : HsOk X Z W G (.ExceptHandler (some (.Name x np)) none [.Return (some (.Constant (.bool b) j p2)) pos] p1 :: hds) ((c, .ret (.lit (.bl b))) :: hs) :=
  mh_ret M A (fun a pn => pe_bl) (fun _ => .bl) r hc hx hg hdb
theorem mh_retN (M : Mx X Z G k W t) (A : XA X Z G) {c : Nat} {x : Str} {np p1 p2 : Pos} {j : Nat} {hds : List ExceptHandler} {hs : List (Nat × Su)} (r : HsOk X Z W G hds hs)
    (hc : (Nat.ble Z.nc c && Nat.blt c Z.nx) = true := by rfl) (hx : x = Z.cln c := by rfl) (hg : Gl X x := by rfl) (hdb : (x == ("__debug__" : Str)) = false := by decide +kernel) : HsOk X Z W G (.ExceptHandler (some (.Name x np)) none [.Return (some (.Constant .none j p2)) pos] p1 :: hds) ((c, .ret (.lit .non)) :: hs) :=
  mh_ret M A (fun a pn => pe_non) (fun _ => .non) r hc hx hg hdb
theorem mh_cnt (M : Mx X Z G k W t) (A : XA X Z G) {c : Nat} {x : Str} {np p1 : Pos} {hds : List ExceptHandler} {hs : List (Nat × Su)} (r : HsOk X Z W G hds hs)
    (hc : (Nat.ble Z.nc c && Nat.blt c Z.nx) = true := by rfl) (hx : x = Z.cln c := by rfl) (hg : Gl X x := by rfl) (hdb : (x == ("__debug__" : Str)) = false := by decide +kernel) : HsOk X Z W G (.ExceptHandler (some (.Name x np)) none [.Continue pos] p1 :: hds) ((c, .cnt) :: hs) := hs_cnt (A.exm c (btw hc)) (nam_of M (btw hc).2 hx hg hdb) r
theorem mh_pass (M : Mx X Z G k W t) (A : XA X Z G) {c : Nat} {x : Str} {np p1 : Pos} {hds : List ExceptHandler} {hs : List (Nat × Su)} (r : HsOk X Z W G hds hs)
    (hc : (Nat.ble Z.nc c && Nat.blt c Z.nx) = true := by rfl) (hx : x = Z.cln c := by rfl) (hg : Gl X x := by rfl) (hdb : (x == ("__debug__" : Str)) = false := by decide +kernel) : HsOk X Z W G (.ExceptHandler (some (.Name x np)) none [.Pass pos] p1 :: hds) ((c, .pass) :: hs) := hs_pass (A.exm c (btw hc)) (nam_of M (btw hc).2 hx hg hdb) r
theorem mh_setS (M : Mx X Z G k W t) (A : XA X Z G) {c : Nat} (i : Nat) {x y z : Str} {l : List Nat} {np p1 p2 p3 : Pos} {j : Nat} {hds : List ExceptHandler} {hs : List (Nat × Su)} (r : HsOk X Z W G hds hs) (h : z = st l := by decide +kernel)
    (hi : X.N[i]? = some y := by rfl) (hy : Loc X.env.scope y := by first | exact Or.inl rfl | exact Or.inr rfl) (hf : X.fn y = true ∨ X.env.scope.names.lookup y = some .local := by first | exact Or.inl rfl | exact Or.inr rfl) (hs' : swapsWith (.Constant (.str z) j p3) (some (.Name y p2)) pos.line X.env = pure false := by rfl)
    (hc : (Nat.ble Z.nc c && Nat.blt c Z.nx) = true := by rfl) (hx : x = Z.cln c := by rfl) (hg : Gl X x := by rfl) (hdb : (x == ("__debug__" : Str)) = false := by decide +kernel) : HsOk X Z W G (.ExceptHandler (some (.Name x np)) none [.Assign [.Name y p2] (.Constant (.str z) j p3) pos] p1 :: hds) ((c, .set i (.str l)) :: hs) := by
  subst h; exact hs_set (A.exm c (btw hc)) (nam_of M (btw hc).2 hx hg hdb) (fun a pn => pe_str) (fun _ => .str) M.nd hi hy hf hs' r
theorem mh_setN (M : Mx X Z G k W t) (A : XA X Z G) {c : Nat} (i : Nat) {x y : Str} {np p1 p2 p3 : Pos} {j : Nat} {hds : List ExceptHandler} {hs : List (Nat × Su)} (r : HsOk X Z W G hds hs)
    (hi : X.N[i]? = some y := by rfl) (hy : Loc X.env.scope y := by first | exact Or.inl rfl | exact Or.inr rfl) (hf : X.fn y = true ∨ X.env.scope.names.lookup y = some .local := by first | exact Or.inl rfl | exact Or.inr rfl) (hs' : swapsWith (.Constant .none j p3) (some (.Name y p2)) pos.line X.env = pure false := by rfl)
    (hc : (Nat.ble Z.nc c && Nat.blt c Z.nx) = true := by rfl) (hx : x = Z.cln c := by rfl) (hg : Gl X x := by rfl) (hdb : (x == ("__debug__" : Str)) = false := by decide +kernel) : HsOk X Z W G (.ExceptHandler (some (.Name x np)) none [.Assign [.Name y p2] (.Constant .none j p3) pos] p1 :: hds) ((c, .set i .non) :: hs) :=
  hs_set (A.exm c (btw hc)) (nam_of M (btw hc).2 hx hg hdb) (fun a pn => pe_non) (fun _ => .non) M.nd hi hy hf hs' r
theorem mh_exf (M : Mx X Z G k W t) (A : XA X Z G) {c f : Nat} (i : Nat) {x n fx : Str} {np p1 p2 p3 : Pos} {hds : List ExceptHandler} {hs : List (Nat × Su)} (r : HsOk X Z W G hds hs) (hi : X.N[i]? = some n := by rfl) (hln : X.env.kindOf n = some .local := by rfl)
    (hv : Vis X.env.scope n := by first | exact Or.inl rfl | exact Or.inr (Or.inl rfl) | exact Or.inr (Or.inr rfl)) (hd : (n == ("__debug__" : Str)) = false := by decide +kernel) (hcd : (n == ("__classdict__" : Str)) = false := by decide +kernel) (hf : Nat.blt f Z.nfx = true := by rfl) (hfx : fx = Z.fld f := by rfl)
    (hb : attributeBase (.Name n p2) fx X.env (eval (.Name n p2) X.env) = eval (.Name n p2) X.env := by rfl)
    (hc : (Nat.ble Z.nc c && Nat.blt c Z.nx) = true := by rfl) (hx : x = Z.cln c := by rfl) (hg : Gl X x := by rfl) (hdb : (x == ("__debug__" : Str)) = false := by decide +kernel) : HsOk X Z W G (.ExceptHandler (some (.Name x np)) (some n) [.Return (some (.Attribute (.Name n p2) fx p3)) pos] p1 :: hds) ((c, .ret (.exf i f)) :: hs) :=
  hs_exf M.F.zk (A.exm c (btw hc)) (nam_of M (btw hc).2 hx hg hdb) M.nd hi hln hv hd hcd hfx (A.xf f (ltb hf)) hb r
theorem mh_exf2 (M : Mx X Z G k W t) (A : XA X Z G) {c f g k2 : Nat} (i : Nat) {x n fx gx : Str} {np p1 p2 p3 p4 p5 p6 : Pos} {hds : List ExceptHandler} {hs : List (Nat × Su)} (r : HsOk X Z W G hds hs) (hi : X.N[i]? = some n := by rfl) (hln : X.env.kindOf n = some .local := by rfl)
    (hv : Vis X.env.scope n := by first | exact Or.inl rfl | exact Or.inr (Or.inl rfl) | exact Or.inr (Or.inr rfl)) (hd : (n == ("__debug__" : Str)) = false := by decide +kernel) (hcd : (n == ("__classdict__" : Str)) = false := by decide +kernel) (hf : Nat.blt f Z.nfx = true := by rfl) (hfx : fx = Z.fld f := by rfl) (hf2 : Nat.blt g Z.nfx = true := by rfl) (hgx : gx = Z.fld g := by rfl)
    (hb : attributeBase (.Name n p2) fx X.env (eval (.Name n p2) X.env) = eval (.Name n p2) X.env := by rfl) (hb2 : attributeBase (.Name n p4) gx X.env (eval (.Name n p4) X.env) = eval (.Name n p4) X.env := by rfl)
    (hs1 : starEach [.Attribute (.Name n p2) fx p3, .Attribute (.Name n p4) gx p5] X.env = (false, eval (.Attribute (.Name n p2) fx p3) X.env) :: starEach [.Attribute (.Name n p4) gx p5] X.env := by rfl) (hs2 : starEach [.Attribute (.Name n p4) gx p5] X.env = (false, eval (.Attribute (.Name n p4) gx p5) X.env) :: starEach [] X.env := by rfl)
    (hc : (Nat.ble Z.nc c && Nat.blt c Z.nx) = true := by rfl) (hx : x = Z.cln c := by rfl) (hg : Gl X x := by rfl) (hdb : (x == ("__debug__" : Str)) = false := by decide +kernel) :
    HsOk X Z W G (.ExceptHandler (some (.Name x np)) (some n) [.Return (some (.Tuple [.Attribute (.Name n p2) fx p3, .Attribute (.Name n p4) gx p5] k2 p6)) pos] p1 :: hds) ((c, .ret (.exf2 i f g)) :: hs) :=
  hs_exf2 M.F.zk (A.exm c (btw hc)) (nam_of M (btw hc).2 hx hg hdb) M.nd hi hln hv hd hcd hfx hgx (A.xf f (ltb hf)) (A.xf g (ltb hf2)) hb hb2 hs1 hs2 r
theorem ms_try (M : Mx X Z G k W t) {body : List Stmt} {h₀ : ExceptHandler} {hds : List ExceptHandler} {hs : List (Nat × Su)} {jb : Stms} (hb : ∀ (W' : WX) (pn : List (Addr × Obj)) (xe : Value → Shared → Prop), Mx (X.tr pn xe) Z G k W' true → MB (X.tr pn xe) Z G W' body jb) (hh : HsOk X Z W G (h₀ :: hds) hs)
    (hst : X.stack = X.env :: X.outer := by rfl) (hf : X.env.frame = some X.env.locals := by rfl) : MS X Z G W (.Try body (h₀ :: hds) [] [] pos) (.try_ jb hs) := ss_try hst hf M.tk (fun W' pn xe tk hp => hb W' pn xe (M.tr W' pn xe tk hp)) hh
end
/-! ### the levels -/
/-- what is fixed of a program: a def's slots, parameters, body; a class's __init__ .. -/
structure Prg where
  ir : Nat → Option (Nat × Nat × Stms)
  io : Nat → Option Nat
  mt : Nat → Nat → Option Nat
  xfl : Nat → List Nat
  xsub : Nat → Nat → Bool
  nfn : Nat
def env0 (L : Nat) (ds : List D) : Env := ds.map some ++ List.replicate (L - ds.length) none
def lvl (p : Prg) : Nat → Gam
  | 0 => ⟨fun _ _ _ _ _ => False, fun _ _ _ _ _ => False, p.mt, p.xfl, p.xsub, p.nfn⟩
  | n + 1 => ⟨fun i ds S Q E => match p.ir i with | some (L, m, b) => ds.length = m ∧ wpSs (lvl p n) b { nx := fun _ S' => Q .non S', rt := Q } (fun x _ S' => E x S') (env0 L ds) S | none => False,
    fun c ds S Q E => match p.io c with | some i => (lvl p n).fn i ds S Q E | none => False, p.mt, p.xfl, p.xsub, p.nfn⟩
theorem lvl_mt (p : Prg) (n : Nat) : (lvl p n).mt = p.mt := by cases n <;> rfl
/-- the written part's word of a program's defs and classes -/
structure Std (P : Program) (w : World) (K : PySem.W.Frag) (mg : Str → Option Value) (base : Heap) (Z : Nm) (p : Prg) : Prop where
  zk : Z.K = K
  cls : ∀ c, c < Z.nc → Cls K (Z.cla c)
  na : ∀ c f, c < Z.nc → f < Z.nf → NoAttr K (Z.cla c) (Z.fld f)
  mth : ∀ c m i, p.mt c m = some i → Meth K (Z.cla c) (Z.mn m) (Z.fa i)
  mnf : ∀ c m i, p.mt c m = some i → ∀ f, f < Z.nf → Z.fld f ≠ Z.mn m
  inis : ∀ c i, p.io c = some i → c < Z.nc ∧ Mk K (Z.cla c) (Z.fa i)
  fns : ∀ i L m b, p.ir i = some (L, m, b) → ∃ x qual st N ps fd, Fun K x qual st (Z.fa i) fd ∧ FnScope N ps (defScope st) ∧ Binds K fd ps [] ∧ N.length = L ∧ ps.length = m ∧
    ∀ (n : Nat) (cdv : Value) (A : Around) (outer : List PySem.Env) (s : Shared) (H : Hp) (E : XK), Mx (cxOf (L2.CX P w) P w K mg base N qual (defScope st) (Z.fa i) cdv A outer s H E) Z (lvl p n) (n + 2) (fun cls d _ H' => E cls d H') false →
      MB (cxOf (L2.CX P w) P w K mg base N qual (defScope st) (Z.fa i) cdv A outer s H E) Z (lvl p n) (fun cls d _ H' => E cls d H') (defBody st) b
theorem er_start {Z : Nm} {H : Hp} {ds : List D} {vs : List V} {N : List Str} (r : RDs Z H ds vs) : ER Z H (env0 N.length ds) (start N vs) := by
  have hl := r.length
  refine ⟨by simp [env0, start, hl], fun i d h => ?_⟩
  unfold Env.get env0 at h
  by_cases hi : i < ds.length
  · rw [List.getElem?_append_left (by simpa using hi), List.getElem?_map, List.getElem?_eq_getElem hi] at h
    cases h
    obtain ⟨v, h1, h2⟩ := r.get (List.getElem?_eq_getElem hi)
    refine ⟨v, ?_, h2⟩
    unfold start
    rw [List.getElem?_append_left (by simp; omega), List.getElem?_map, h1]
    rfl
  · rw [List.getElem?_append_right (by simpa using hi)] at h
    rw [List.getElem?_replicate] at h
    split at h
    · rename_i e
      split at e <;> cases e
    · cases h
theorem fn_lvl {P : Program} {w : World} {K : PySem.W.Frag} {mg : Str → Option Value} {base : Heap} {Z : Nm} {p : Prg} {n i L m : Nat} {b : Stms} {x qual : Str} {st : Stmt} {N ps : List Str} {fd : FuncData} (ih : ∀ A, Rm (n + 2) A → Fx P w K mg base A Z (lvl p n) (n + 2)) (B : ∀ n, Tab K mg Z (lvl p n))
    (e : p.ir i = some (L, m, b)) (F : Fun K x qual st (Z.fa i) fd) (Sc : FnScope N ps (defScope st)) (hN : N.length = L) (hp : ps.length = m)
    (body : ∀ (cdv : Value) (A : Around) (outer : List PySem.Env) (s : Shared) (H : Hp) (E : XK), Mx (cxOf (L2.CX P w) P w K mg base N qual (defScope st) (Z.fa i) cdv A outer s H E) Z (lvl p n) (n + 2) (fun cls d _ H' => E cls d H') false →
      MB (cxOf (L2.CX P w) P w K mg base N qual (defScope st) (Z.fa i) cdv A outer s H E) Z (lvl p n) (fun cls d _ H' => E cls d H') (defBody st) b) :
    FnR P w K mg base (L2.CX P w) (n + 1 + 2) (Z.fa i) fd ps (LS Z ((lvl p (n + 1)).fn i)) := by
  refine Fun.okR F (k := n + 2) Sc (fun vs H Q E h => ?_) (fun cdv A' outer s H vs Q E hr' h => ?_)
  · obtain ⟨ds, S, Qa, Ea, rd, sr, w', _⟩ := h
    unfold lvl at w'
    dsimp only at w'
    rw [e] at w'
    rw [← rd.length, w'.1, hp]
  · obtain ⟨ds, S, Qa, Ea, rd, sr, w', q, qe⟩ := h
    unfold lvl at w'
    dsimp only at w'
    rw [e] at w'
    refine ⟨_, body cdv A' outer s H E ⟨ih _ hr', B n, takes_of rfl rfl rfl rfl, rfl, Sc.nd, passes_of rfl, fun _ _ _ _ _ _ h => h⟩, ?_⟩
    refine ⟨env0 L ds, S, _, _, by rw [← hN]; exact er_start rd, sr, w'.2, ⟨fun σ S' τ H' k er sr' h => q _ _ _ _ k sr' .non h, q, fun _ _ _ _ _ _ _ h => h.elim, fun _ _ _ _ _ _ _ h => h.elim⟩, fun x cls dd σ S' τ H' k er sr' xr h => qe x cls dd S' H' k sr' xr h⟩
theorem lvl_ok {P : Program} {w : World} {K : PySem.W.Frag} {mg : Str → Option Value} {base : Heap} {Z : Nm} {p : Prg} (T : Std P w K mg base Z p) (B : ∀ n, Tab K mg Z (lvl p n)) : ∀ n A, Rm (n + 2) A → Fx P w K mg base A Z (lvl p n) (n + 2)
  | 0, A, hr => ⟨T.zk, hr, fun i ds S Q E h => h.elim, T.cls, T.na, T.mth, T.mnf, fun c ds S Q E h => h.elim⟩
  | n + 1, A, hr => by
    have ih := lvl_ok T B n
    refine ⟨T.zk, hr, fun i ds S Q E h => ?_, T.cls, T.na, T.mth, T.mnf, fun c ds S Q E h => ?_⟩
    · have h' := h
      unfold lvl at h'
      dsimp only at h'
      split at h'
      · rename_i L m b e
        obtain ⟨x, qual, st, N, ps, fd, F, Sc, hb, hN, hp, body⟩ := T.fns i L m b e
        exact ⟨fd, ps, fn_lvl ih B e F Sc hN hp (body n), hb, F.kp⟩
      · exact h'.elim
    · unfold lvl at h
      dsimp only at h
      split at h
      · rename_i i e
        obtain ⟨hc, M⟩ := T.inis c i e
        obtain ⟨fd, ps, ok, hb, kp⟩ := (ih A (hr.mono (Nat.le_succ _))).fn i ds S Q E h
        refine ⟨hc, Z.fa i, fd, ps, n + 2, M, ok.imp fun vs H Q E h2 => ?_, hb, Nat.le_refl _⟩
        obtain ⟨ds, S, Qa, Ea, rd, sr, w', q, qe⟩ := h2
        unfold lvl at w'
        dsimp only at w'
        rw [e] at w'
        exact ⟨ds, S, Qa, Ea, rd, sr, w', q, qe⟩
      · exact h.elim
end Mini
end L2
/-! Mini, part P: the law's end -/
namespace L2
namespace Mini
open PySem PySem.Spec PyProof.Rows
/-- what the law promises: True -/
def SpOut (K : PySem.W.Frag) : Sp := fun vs H Q _ => ∃ (a : Addr) (ns : List Int), vs = [.ref a] ∧ SqL K H a (ns.map V.int) ∧ ns.length ≤ 63 ∧ ∀ H', Q (.bl true) H'
/-- the written part holds no list -/
def noList (K : PySem.W.Frag) : Bool := K.all fun p => match p.2.cls with | .type t => t != "list" | _ => true
theorem lookup_mem {a : Addr} {o : Obj} : ∀ {K : PySem.W.Frag}, K.lookup a = some o → (a, o) ∈ K
  | [], h => by cases h
  | (b, u) :: r, h => by
    rw [List.lookup_cons] at h
    split at h
    · rename_i e
      cases h
      rw [beq_iff_eq.mp e]
      exact List.mem_cons_self
    · exact List.mem_cons_of_mem _ (lookup_mem h)
theorem noList_of {K : PySem.W.Frag} (h : noList K = true) {a : Addr} {o : Obj} (l : K.lookup a = some o) : o.cls ≠ .type "list" := fun e => by
  have q := List.all_eq_true.mp h _ (lookup_mem l)
  dsimp only at q
  rw [e] at q
  exact absurd q (by decide)
theorem sp_out {K : PySem.W.Frag} {Z : Nm} {G : Gam} {i : Nat} (nl : noList K = true) (pure : ∀ (S : Sto) (a : Addr) (ns : List Int), ns.length ≤ 63 → rd S a = some (ns.map D.int) → G.fn i [.ref a] S (fun d _ => d = .bl true) (fun _ _ => False))
    (vs : List V) (H : Hp) (Q : VK) (E : XK) (h : SpOut K vs H Q E) : LS Z (G.fn i) vs H Q E := by
  obtain ⟨a, ns, rfl, hS, hl, q⟩ := h
  have rds : ∀ l : List Int, RDs Z H (l.map D.int) (l.map V.int) := fun l => by
    induction l with
    | nil => exact .nil
    | cons n l ih => exact .cons .int ih
  have fin : ∀ c, rd (fun b => if b = a then some c else none) a = some (ns.map D.int) → CellAt Z H a c → LS Z (G.fn i) [.ref a] H Q E := fun c hr hc => by
    refine ⟨[.ref a], fun b => if b = a then some c else none, _, _, .cons .ref .nil, fun b d e => ?_, pure _ a ns hl hr, fun d v S' H' _ _ r e => ?_, fun _ _ _ _ _ _ _ _ z => z.elim⟩
    · dsimp only at e
      by_cases hb : b = a
      · subst hb
        rw [if_pos rfl] at e
        cases e
        exact hc
      · rw [if_neg hb] at e; cases e
    · subst e
      cases r
      exact q H'
  rcases hS with (h | ⟨o, h⟩) | ⟨o, its, n, h1, h2, _⟩
  · exact fin (.lst (ns.map D.int)) (by unfold rd; simp) ⟨_, h, rds ns⟩
  · exact fin (.fls (ns.map D.int)) (by unfold rd; simp) ⟨o, _, h, rds ns⟩
  · exact absurd h2 (noList_of nl h1)
theorem cx_false {P : Program} {w : World} {H : Hp} {s : Shared} {e : Value} {s' : Shared} (h : L2.CX P w [] H s (fun _ _ _ => False) e s') : False := by
  obtain ⟨_, _, _, _, _, _, _, _, _, _, _, _, z⟩ := h
  exact z
theorem walkM {l : PySem.W.OpenLaw} {j k : Nat} {q : Program} {loose : List Str} {XP : (Str → Option Value) → Heap → Prop} {YP : World → Heap → Prop} {d : DefRec} {K : Params → PySem.W.Frag} (hn : l.most = some 63) (hdf : d.params.defaults = []) (hr : Room k callerA) (hj : j + 9 ≤ 3 * k) (hk : 25 ≤ k)
    (hY : ∀ (w : World) (h : Heap), YP w h → (K w.params).In h)
    (F : ∀ (w : World) (mg : Str → Option Value) (fa : Addr) (h : Heap), (K w.params).In h → h.Ns mainGlobals mg → mg d.name = some (.ref fa) →
      ∃ fd : FuncData, (∀ (s : Shared) (u : Value), BindsTo s fd ⟨[u], []⟩ [("script", u)]) ∧ ∀ base : Heap, (K w.params).In base → base.Ns mainGlobals mg → FnR l.prog w (K w.params) mg base (L2.CX l.prog w) j fa fd ["script"] (SpOut (K w.params))) :
    PySem.W.WalkO q loose XP YP l.row.toRowW d [] (fun f vs => PySem.call f vs) :=
  L2.walk_of (n := 63) (k := k) (x := "script") (CX := fun w => L2.CX l.prog w) (sp := fun w => SpOut (K w.params)) hn (by decide) hdf hr hY (fun w mg fa h a b c => let ⟨fd, h1, h2⟩ := F w mg fa h a b c; ⟨fd, h1, fun base x y => (h2 base x y).top hj hk⟩) (fun _ _ a ns hl _ hS => ⟨a, ns, rfl, hS, hl, fun _ => rfl⟩) fun _ _ _ _ _ z => cx_false z
end Mini
end L2
/-! Mini, part Q: help for what is proved in the small language alone -/
namespace L2
namespace Mini
open PySem PySem.Spec PyProof.Rows
/-! ### a store that grows -/
def Sx (S S' : Sto) : Prop := ∀ a c, S a = some c → S' a = some c
theorem Sx.refl (S : Sto) : Sx S S := fun _ _ h => h
theorem Sx.trans {S S1 S2 : Sto} (a : Sx S S1) (b : Sx S1 S2) : Sx S S2 := fun c d h => b c d (a c d h)
theorem Sx.new {S : Sto} {p : Addr} {c : Cell} (n : S p = none) : Sx S (S.upd p c) := fun a d h => by
  by_cases e : a = p
  · subst e; rw [n] at h; cases h
  · rw [Sto.upd_ne e]; exact h
/-- all but the cell at p -/
def Sxb (p : Addr) (S S' : Sto) : Prop := ∀ a c, a ≠ p → S a = some c → S' a = some c
theorem Sx.b {S S' : Sto} {p : Addr} (h : Sx S S') : Sxb p S S' := fun a c _ q => h a c q
theorem Sxb.refl (p : Addr) (S : Sto) : Sxb p S S := fun _ _ _ h => h
theorem Sxb.trans {p : Addr} {S S1 S2 : Sto} (a : Sxb p S S1) (b : Sxb p S1 S2) : Sxb p S S2 := fun c d n h => b c d n (a c d n h)
theorem Sxb.put {p : Addr} {S : Sto} {c : Cell} : Sxb p S (S.upd p c) := fun a d n h => by rw [Sto.upd_ne n]; exact h
theorem Sxb.of_new {p : Addr} {S S' : Sto} (n : S p = none) (h : Sxb p S S') : Sx S S' := fun a c q => by
  by_cases e : a = p
  · subst e; rw [n] at q; cases q
  · exact h a c e q
theorem rd_sx {S S' : Sto} {a : Addr} {ds : List D} (h : Sx S S') (e : rd S a = some ds) : rd S' a = some ds := by
  unfold rd at e ⊢
  split at e
  · rename_i q; cases e; rw [h _ _ q]
  · rename_i q; cases e; rw [h _ _ q]
  · cases e
theorem rd_sxb {p a : Addr} {S S' : Sto} {ds : List D} (h : Sxb p S S') (n : a ≠ p) (e : rd S a = some ds) : rd S' a = some ds := by
  unfold rd at e ⊢
  split at e
  · rename_i q; cases e; rw [h _ _ n q]
  · rename_i q; cases e; rw [h _ _ n q]
  · cases e
theorem rd_lst {S : Sto} {a : Addr} {ds : List D} (h : S a = some (.lst ds)) : rd S a = some ds := by unfold rd; rw [h]
theorem new_ne {S : Sto} {a p : Addr} {c : Cell} (h : S a = some c) (n : S p = none) : a ≠ p := fun e => by rw [e, n] at h; cases h
theorem rd_upd {S : Sto} {p : Addr} {ds : List D} : rd (S.upd p (.lst ds)) p = some ds := by unfold rd; rw [Sto.upd_same]
/-! ### plain data: no addresses -/
mutual
def gd : D → Bool
  | .non => true
  | .bl _ => true
  | .int _ => true
  | .str l => l.all fun c => decide (c < 0x110000)
  | .tup ds => gds ds
  | .ref _ => false
  | .fn _ => false
def gds : List D → Bool
  | [] => true
  | d :: ds => gd d && gds ds
end
mutual
def pdo : D → PyData
  | .non => .none
  | .bl b => .bool b
  | .int i => .int i
  | .str l => .str (st l)
  | .tup ds => .tuple (pdos ds)
  | .ref _ => .none
  | .fn _ => .none
def pdos : List D → List PyData
  | [] => []
  | d :: ds => pdo d :: pdos ds
end
mutual
theorem pd_of (S : Sto) : ∀ {d : D}, gd d = true → PD S d (pdo d)
  | .non, _ => .non
  | .bl _, _ => .bl
  | .int _, _ => .int
  | .str l, h => .str (by simpa [gd] using h)
  | .tup ds, h => .tup (pds_of S (by simpa [gd] using h))
  | .ref _, h => by cases h
  | .fn _, h => by cases h
theorem pds_of (S : Sto) : ∀ {ds : List D}, gds ds = true → PDs S ds (pdos ds)
  | [], _ => .nil
  | d :: ds, h => by
    have h' : gd d = true ∧ gds ds = true := by simpa [gds] using h
    exact .cons (pd_of S h'.1) (pds_of S h'.2)
end
mutual
/-- the depth -/
def dd : D → Nat
  | .tup ds => dds ds + 1
  | _ => 0
def dds : List D → Nat
  | [] => 0
  | d :: ds => max (dd d) (dds ds)
end
mutual
theorem dd_pdo : ∀ d : D, (pdo d).depth = dd d
  | .non => rfl
  | .bl _ => rfl
  | .int _ => rfl
  | .str _ => rfl
  | .tup ds => by show PyData.depthAll (pdos ds) + 1 = dds ds + 1; rw [dds_pdo ds]
  | .ref _ => rfl
  | .fn _ => rfl
theorem dds_pdo : ∀ ds : List D, PyData.depthAll (pdos ds) = dds ds
  | [] => rfl
  | d :: ds => by show max (pdo d).depth (PyData.depthAll (pdos ds)) = max (dd d) (dds ds); rw [dd_pdo d, dds_pdo ds]
end
mutual
/-- equal as Python has it, of plain data -/
def deq : D → D → Bool
  | .non, .non => true
  | .bl a, .bl b => a == b
  | .bl a, .int j => (if a then 1 else 0) == j
  | .int i, .bl b => i == (if b then 1 else 0)
  | .int i, .int j => i == j
  | .str x, .str y => x == y
  | .tup xs, .tup ys => deqs xs ys
  | _, _ => false
def deqs : List D → List D → Bool
  | [], [] => true
  | x :: xs, y :: ys => deq x y && deqs xs ys
  | _, _ => false
end
theorem st_beq (x y : List Nat) : (st x == st y) = (x == y) := by
  by_cases e : x = y
  · subst e; simp
  · have : ¬ st x = st y := fun q => e (st_inj q)
    rw [beq_eq_false_iff_ne.mpr this, beq_eq_false_iff_ne.mpr e]
mutual
theorem deq_pdo : ∀ x y : D, gd x = true → gd y = true → PyData.eqv (pdo x) (pdo y) = deq x y
  | .tup xs, .tup ys, h, h2 => by
    show PyData.eqvAll (pdos xs) (pdos ys) = deqs xs ys
    exact deqs_pdo xs ys (by simpa [gd] using h) (by simpa [gd] using h2)
  | .str x, .str y, _, _ => st_beq x y
  | .bl a, .bl b, _, _ => rfl
  | .bl a, .int b, _, _ => rfl
  | .int a, .bl b, _, _ => rfl
  | .int a, .int b, _, _ => rfl
  | .non, y, _, h2 => by cases y <;> first | rfl | cases h2
  | .bl _, .non, _, _ => rfl
  | .bl _, .str _, _, _ => rfl
  | .bl _, .tup _, _, _ => rfl
  | .int _, .non, _, _ => rfl
  | .int _, .str _, _, _ => rfl
  | .int _, .tup _, _, _ => rfl
  | .str _, .non, _, _ => rfl
  | .str _, .bl _, _, _ => rfl
  | .str _, .int _, _, _ => rfl
  | .str _, .tup _, _, _ => rfl
  | .tup _, .non, _, _ => rfl
  | .tup _, .bl _, _, _ => rfl
  | .tup _, .int _, _, _ => rfl
  | .tup _, .str _, _, _ => rfl
  | .ref _, _, h, _ => by cases h
  | .fn _, _, h, _ => by cases h
  | _, .ref _, _, h => by cases h
  | _, .fn _, _, h => by cases h
theorem deqs_pdo : ∀ xs ys : List D, gds xs = true → gds ys = true → PyData.eqvAll (pdos xs) (pdos ys) = deqs xs ys
  | [], [], _, _ => rfl
  | [], _ :: _, _, _ => rfl
  | _ :: _, [], _, _ => rfl
  | x :: xs, y :: ys, h, h2 => by
    have h' : gd x = true ∧ gds xs = true := by simpa [gds] using h
    have h2' : gd y = true ∧ gds ys = true := by simpa [gds] using h2
    show (PyData.eqv (pdo x) (pdo y) && PyData.eqvAll (pdos xs) (pdos ys)) = (deq x y && deqs xs ys)
    rw [deq_pdo x y h'.1 h2'.1, deqs_pdo xs ys h'.2 h2'.2]
end
theorem eqv_of {S : Sto} {x y : D} (hx : gd x = true) (hy : gd y = true) (h : min (dd x) (dd y) ≤ 190) : Eqv S x y (deq x y) := by
  have e := Eqv.dat (pd_of S hx) (pd_of S hy) (show eqRoom (pdo x) (pdo y) by unfold eqRoom; rw [dd_pdo, dd_pdo]; exact h)
  rwa [deq_pdo x y hx hy] at e
/-- == of plain data -/
theorem eqW_of {S : Sto} {x y : D} {neg : Bool} {Q : QD} (hx : gd x = true) (hy : gd y = true) (h : min (dd x) (dd y) ≤ 190) (q : Q (.bl (neg ^^ deq x y)) S) : eqW x y neg S Q := by
  unfold eqW
  split
  · exact q
  · exact q
  · exact ⟨_, eqv_of hx hy h, q⟩
theorem eqW_t0 {S : Sto} {a : D} {ds : List D} {neg : Bool} {Q : QD} (hx : gd (.tup (a :: ds)) = true) (q : Q (.bl (neg ^^ false)) S) : eqW (.tup (a :: ds)) (.tup []) neg S Q :=
  eqW_of hx rfl (by simp [dd, dds]) q
/-- a list of plain data against [] -/
theorem eqW_nil {S : Sto} {a b : Addr} {ds : List D} {neg : Bool} {Q : QD} (h : rd S a = some ds) (g : gds ds = true) (h2 : rd S b = some []) (q : Q (.bl (neg ^^ ds.isEmpty)) S) : eqW (.ref a) (.ref b) neg S Q := by
  show ∃ r, Eqv S (.ref a) (.ref b) r ∧ Q (.bl (neg ^^ r)) S
  refine ⟨ds.isEmpty, ?_, q⟩
  have e := Eqv.dat (.ref h (pds_of S g)) (.ref h2 .nil) (show eqRoom (.list (pdos ds)) (.list []) by
    unfold eqRoom
    show min (PyData.depthAll (pdos ds) + 1) 1 ≤ 190
    omega)
  cases ds with
  | nil => exact e
  | cons d ds => exact e
/-! ### for the running of a text -/
theorem atI_0 {α : Type} {a : α} {r : List α} : atI (a :: r) 0 = some a := by
  unfold atI ixN
  rw [if_pos (by omega), if_pos (by simp only [List.length_cons]; omega)]
  rfl
theorem atI_1 {α : Type} {a b : α} {r : List α} : atI (a :: b :: r) 1 = some b := by
  unfold atI ixN
  rw [if_pos (by omega), if_pos (by simp only [List.length_cons]; omega)]
  rfl
theorem atI_2 {α : Type} {a b c : α} {r : List α} : atI (a :: b :: c :: r) 2 = some c := by
  unfold atI ixN
  rw [if_pos (by omega), if_pos (by simp only [List.length_cons]; omega)]
  rfl
theorem atI_nat {α : Type} {l : List α} {k : Nat} : atI l (k : Int) = l[k]? := by
  unfold atI
  by_cases h : k < l.length
  · unfold ixN
    rw [if_pos (by omega), if_pos (by omega)]
    rfl
  · unfold ixN
    rw [if_pos (by omega), if_neg (by omega), List.getElem?_eq_none (by omega)]
    rfl
theorem lb_nc {a : Nat} {l : List Nat} : (([] : List Nat) == a :: l) = false := rfl
theorem lb_cn {a : Nat} {l : List Nat} : (a :: l == ([] : List Nat)) = false := rfl
theorem lb_nn : (([] : List Nat) == []) = true := rfl
theorem lb_cc {a b : Nat} {l m : List Nat} : (a :: l == b :: m) = (a == b && l == m) := rfl
theorem ex_some {α : Type} {a : α} {P : α → Prop} : (∃ d, some a = some d ∧ P d) = P a := propext ⟨fun ⟨d, e, h⟩ => by cases e; exact h, fun h => ⟨a, rfl, h⟩⟩
theorem eqW_str {a b : List Nat} {neg : Bool} {S : Sto} {Q : QD} : eqW (.str a) (.str b) neg S Q = Q (.bl (neg ^^ (a == b))) S := rfl
theorem eqW_int {a b : Int} {neg : Bool} {S : Sto} {Q : QD} : eqW (.int a) (.int b) neg S Q = Q (.bl (neg ^^ (a == b))) S := rfl
theorem inW_chr {c : Nat} {b : List Nat} {neg : Bool} {S : Sto} {Q : QD} : inW (.str [c]) (.str b) neg S Q = Q (.bl (neg ^^ b.contains c)) S := rfl
theorem pdos_any {x : D} (hx : gd x = true) : ∀ ds : List D, gds ds = true → ((pdos ds).any fun q => PyData.eqv q (pdo x)) = ds.any fun d => deq d x
  | [], _ => rfl
  | d :: ds, h => by
    have h' : gd d = true ∧ gds ds = true := by simpa [gds] using h
    show (PyData.eqv (pdo d) (pdo x) || (pdos ds).any _) = (deq d x || ds.any _)
    rw [deq_pdo d x h'.1 hx, pdos_any hx ds h'.2]
theorem inL_of {S : Sto} {x : D} {ds : List D} (hx : gd x = true) (h : gds ds = true) (hd : dd x ≤ 180) : inW.InL S x ds (ds.any fun d => deq d x) :=
  ⟨pdo x, pdos ds, pd_of S hx, pds_of S h, by rw [dd_pdo]; exact hd, (pdos_any hx ds h).symm⟩
theorem inW_tup_eq {x : D} {ds : List D} {neg : Bool} {S : Sto} {Q : QD} : inW x (.tup ds) neg S Q = ∃ r, inW.InL S x ds r ∧ Q (.bl (neg ^^ r)) S := by
  cases x <;> try rfl
  rename_i l
  rcases l with _ | ⟨c, _ | ⟨d, r⟩⟩ <;> rfl
theorem inW_lst_eq {x : D} {a : Addr} {ds : List D} {neg : Bool} {S : Sto} {Q : QD} (e : rd S a = some ds) : inW x (.ref a) neg S Q = ∃ r, inW.InL S x ds r ∧ Q (.bl (neg ^^ r)) S := by
  have go : inW x (.ref a) neg S Q = (match S a with
    | some (.dct kvs) => (match x with
      | .int i => Q (.bl (neg ^^ (dget kvs (.inl i)).isSome)) S
      | .str l => Q (.bl (neg ^^ (dget kvs (.inr l)).isSome)) S
      | _ => False)
    | some (.lst ds) => ∃ r, inW.InL S x ds r ∧ Q (.bl (neg ^^ r)) S
    | some (.fls ds) => ∃ r, inW.InL S x ds r ∧ Q (.bl (neg ^^ r)) S
    | _ => False) := by
    cases x <;> try rfl
    rename_i l
    rcases l with _ | ⟨c, _ | ⟨d, r⟩⟩ <;> rfl
  rw [go]
  unfold rd at e
  split at e
  · rename_i q'; cases e; rw [q']
  · rename_i q'; cases e; rw [q']
  · cases e
/-- x in a tuple of plain data -/
theorem inW_tup {x : D} {ds : List D} {neg : Bool} {S : Sto} {Q : QD} (hx : gd x = true) (h : gds ds = true) (hd : dd x ≤ 180) (q : Q (.bl (neg ^^ ds.any fun d => deq d x)) S) : inW x (.tup ds) neg S Q := by
  rw [inW_tup_eq]
  exact ⟨_, inL_of hx h hd, q⟩
theorem inW_lst {x : D} {a : Addr} {ds : List D} {neg : Bool} {S : Sto} {Q : QD} (e : rd S a = some ds) (hx : gd x = true) (h : gds ds = true) (hd : dd x ≤ 180) (q : Q (.bl (neg ^^ ds.any fun d => deq d x)) S) : inW x (.ref a) neg S Q := by
  rw [inW_lst_eq e]
  exact ⟨_, inL_of hx h hd, q⟩
theorem sqW_t {ds : List D} {S : Sto} {R : List D → (Sto → Prop) → Prop} : sqW (.tup ds) S R = R ds (fun _ => True) := rfl
theorem sqW_s {l : List Nat} {S : Sto} {R : List D → (Sto → Prop) → Prop} : sqW (.str l) S R = (l.length ≤ sizeLine ∧ R (l.map fun c => D.str [c]) fun _ => True) := rfl
theorem sqW_r {a : Addr} {ds : List D} {S : Sto} {R : List D → (Sto → Prop) → Prop} (h : rd S a = some ds) (r : R ds (liveL a ds)) : sqW (.ref a) S R := by
  unfold rd at h
  unfold sqW
  dsimp only
  split at h
  · cases h; exact r
  · cases h; exact r
  · cases h
theorem binW_ai {i j : Int} {S : Sto} {Q : QD} : binW .add (.int i) (.int j) S Q = Q (.int (i + j)) S := rfl
theorem binW_si {i j : Int} {S : Sto} {Q : QD} : binW .sub (.int i) (.int j) S Q = Q (.int (i - j)) S := rfl
theorem binW_at {a b : List D} {S : Sto} {Q : QD} : binW .add (.tup a) (.tup b) S Q = (a.length + b.length ≤ sizeLine ∧ Q (.tup (a ++ b)) S) := rfl
theorem binW_as {a b : List Nat} {S : Sto} {Q : QD} : binW .add (.str a) (.str b) S Q = (a.length + b.length ≤ sizeLine ∧ Q (.str (a ++ b)) S) := rfl
theorem binW_mi {i j : Int} {S : Sto} {Q : QD} : binW .mul (.int i) (.int j) S Q = ((smallI i ∨ smallI j) ∧ Q (.int (i * j)) S) := rfl
theorem binW_ms {c : Nat} {k : Int} {S : Sto} {Q : QD} : binW .mul (.str [c]) (.int k) S Q = (0 ≤ k ∧ k ≤ 1000000 ∧ Q (.str (List.replicate k.toNat c)) S) := rfl
theorem binW_di {i j : Int} {S : Sto} {Q : QD} : binW .fdiv (.int i) (.int j) S Q = (j ≠ 0 ∧ j.natAbs < 1073741824 ∧ Q (.int (i.fdiv j)) S) := rfl
theorem binW_mo {i j : Int} {S : Sto} {Q : QD} : binW .mod (.int i) (.int j) S Q = (j ≠ 0 ∧ Q (.int (i.fmod j)) S) := rfl
theorem szl : 1000000 ≤ sizeLine := by rw [sizeLine_eq]; omega
theorem sz_le {n : Nat} (h : n ≤ 1000000) : (n ≤ sizeLine) = True := eq_true (Nat.le_trans h szl)
theorem sz_lt {n : Nat} (h : n < 1000000) : (n < sizeLine) = True := eq_true (Nat.lt_of_lt_of_le h szl)
theorem sz0 : (0 ≤ sizeLine) = True := sz_le (by omega)
theorem sz1 : (1 ≤ sizeLine) = True := sz_le (by omega)
theorem sz2 : (2 ≤ sizeLine) = True := sz_le (by omega)
theorem sz3 : (3 ≤ sizeLine) = True := sz_le (by omega)
theorem sz4 : (4 ≤ sizeLine) = True := sz_le (by omega)
theorem sz5 : (5 ≤ sizeLine) = True := sz_le (by omega)
theorem sz6 : (6 ≤ sizeLine) = True := sz_le (by omega)
theorem sz7 : (7 ≤ sizeLine) = True := sz_le (by omega)
theorem sz11 : (11 ≤ sizeLine) = True := sz_le (by omega)
/-- the comprehension that lists, all of it -/
theorem bi_all {S : Sto} {p : Addr} {bs : List Bool} {Q : QD} (h : rd S p = some (bs.map D.bl)) (q : Q (.bl (bs.all id)) S) : biW .all [.ref p] S Q := by
  have go : ∀ l : List Bool, blsOf (l.map D.bl) = some l := fun l => by
    induction l with
    | nil => rfl
    | cons b l ih => show (blsOf (l.map D.bl)).map (b :: ·) = _; rw [ih]; rfl
  exact ⟨_, bs, h, go bs, q⟩
theorem binW_ll {S : Sto} {a b : Addr} {xs ys : List D} {Q : QD} (h : S a = some (.lst xs)) (h2 : S b = some (.lst ys)) (hz : xs.length + ys.length ≤ 1000000) (q : ∀ p, S p = none → Q (.ref p) (S.upd p (.lst (xs ++ ys)))) : binW .add (.ref a) (.ref b) S Q :=
  ⟨xs, ys, h, h2, of_eq_true (sz_le hz), q⟩
/-! ### slices -/
theorem sIx_none {n d : Nat} : HT.sIx n d none = d := rfl
theorem sIx_nat {n d k : Nat} : HT.sIx n d (some (k : Int)) = min k n := by
  unfold HT.sIx
  dsimp only
  split <;> omega
theorem cut_from {α : Type} {xs : List α} {k : Nat} : cutD xs (some (k : Int)) none = xs.drop k := by
  unfold cutD
  rw [sIx_nat, sIx_none]
  by_cases h : k ≤ xs.length
  · rw [Nat.min_eq_left h, List.take_of_length_le (by rw [List.length_drop]; exact Nat.le_refl _)]
  · rw [Nat.min_eq_right (by omega), List.drop_eq_nil_of_le (Nat.le_refl _), List.drop_eq_nil_of_le (by omega), List.take_nil]
theorem cut_to {α : Type} {xs : List α} {k : Nat} : cutD xs none (some (k : Int)) = xs.take k := by
  unfold cutD
  rw [sIx_nat, sIx_none, List.drop_zero, Nat.sub_zero]
  by_cases h : k ≤ xs.length
  · rw [Nat.min_eq_left h]
  · rw [Nat.min_eq_right (by omega), List.take_of_length_le (Nat.le_refl _), List.take_of_length_le (by omega)]
theorem cut_mid {α : Type} {xs : List α} {k m : Nat} : cutD xs (some (k : Int)) (some (m : Int)) = (xs.take m).drop k := by
  unfold cutD
  rw [sIx_nat, sIx_nat]
  apply List.ext_getElem?
  intro i
  rw [List.getElem?_take, List.getElem?_drop, List.getElem?_drop, List.getElem?_take]
  by_cases h : k ≤ xs.length
  · rw [Nat.min_eq_left h]
    by_cases h1 : k + i < m
    · by_cases h2 : i < min m xs.length - k
      · rw [if_pos h2, if_pos h1]
      · rw [if_neg h2, if_pos h1, List.getElem?_eq_none (by omega)]
    · rw [if_neg h1, if_neg (by omega)]
  · rw [if_neg (by omega)]
    split
    · rw [List.getElem?_eq_none (by omega)]
    · rfl
theorem cut_1 {α : Type} {a : α} {xs : List α} : cutD (a :: xs) (some 1) none = xs := cut_from (xs := a :: xs) (k := 1)
/-! ### comprehensions, loops -/
/-- each item gives one (or none) -/
theorem goW_map {live : Sto → Prop} {turn : D → (Sto → Prop) → Sto → Prop} {p : Addr} {Q : Sto → Prop} {N : Nat} (f : D → Option D) (hl : ∀ S S', Sxb p S S' → live S → live S') :
    ∀ (ds : List D) (acc : List D) (S : Sto), acc.length + ds.length ≤ N → (∀ d, d ∈ ds → ∀ S1 acc K, Sxb p S S1 → S1 p = some (.lst acc) → acc.length < N → (∀ S', Sxb p S1 S' → S' p = some (.lst (acc ++ (f d).toList)) → K S') → turn d K S1) → S p = some (.lst acc) → live S →
      (∀ S', Sxb p S S' → S' p = some (.lst (acc ++ ds.filterMap f)) → live S' → Q S') → goW live turn ds S Q
  | [], acc, S, _, _, hp, lv, q => ⟨lv, q S (Sxb.refl p S) (by simpa using hp) lv⟩
  | d :: ds, acc, S, hN, ht, hp, lv, q => by
    simp only [List.length_cons] at hN
    refine ⟨lv, ht d List.mem_cons_self S acc _ (Sxb.refl p S) hp (by omega) fun S' x hp' => ?_⟩
    refine goW_map f hl ds _ S' ?_ (fun d' hd' S1 acc K x1 h1 hn k => ht d' (List.mem_cons_of_mem _ hd') S1 acc K (x.trans x1) h1 hn k) hp' (hl S S' x lv) fun S2 x2 h2 l2 => q S2 (x.trans x2) ?_ l2
    · rw [List.length_append]
      cases f d <;> simp <;> omega
    · rw [h2]
      rw [List.filterMap_cons]
      cases f d <;> simp
theorem bm_app {a : Addr} {ds : List D} {d : D} {S : Sto} {Q : QD} (h : S a = some (.lst ds)) (hz : ds.length < sizeLine) (q : Q .non (S.upd a (.lst (ds ++ [d])))) : bmW .append (.ref a) [d] S Q := by
  unfold bmW
  dsimp only
  rw [h]
  exact ⟨hz, q⟩
theorem bm_pop {a : Addr} {ds : List D} {d : D} {S : Sto} {Q : QD} (h : S a = some (.lst (ds ++ [d]))) (q : Q d (S.upd a (.lst ds))) : bmW .pop (.ref a) [] S Q := by
  unfold bmW
  dsimp only
  rw [h]
  refine ⟨d, by simp, ?_⟩
  rw [List.dropLast_concat]
  exact q
theorem snoc_cases {α : Type} (l : List α) : l = [] ∨ ∃ L b, l = L ++ [b] := by
  rcases List.eq_nil_or_concat l with h | ⟨L, b, h⟩
  · exact .inl h
  · exact .inr ⟨L, b, by rw [h, List.concat_eq_append]⟩
theorem forW_step {live : Sto → Prop} {t : Tg} {b : En → Env → Sto → Prop} {K : En} {d : D} {ds : List D} {σ σ' : Env} {S : Sto} (lv : live S) (e : tgW t d σ = some σ')
    (h : ∀ K' : En, (∀ σ2 S2, forW live t b K ds σ2 S2 → K'.nx σ2 S2) → (∀ σ2 S2, forW live t b K ds σ2 S2 → K'.ct σ2 S2) → (∀ d S2, K.rt d S2 → K'.rt d S2) → (∀ σ2 S2, K.nx σ2 S2 → K'.bk σ2 S2) → b K' σ' S) : forW live t b K (d :: ds) σ S := by
  refine ⟨lv, ?_⟩
  rw [e]
  exact h _ (fun _ _ h => h) (fun _ _ h => h) (fun _ _ h => h) (fun _ _ h => h)
/-! ### one statement after the other -/
section
variable {G : Gam} {ss : Stms} {K : En} {X : EX} {σ : Env} {S : Sto}
theorem st_nil (h : K.nx σ S) : wpSs G .nil K X σ S := h
theorem st_set {i : Nat} {e : Ex} (h : wpE G e σ S (fun d S1 => wpSs G ss K X (σ.set i (some d)) S1) (fun x S1 => X x σ S1)) : wpSs G (.cons (.set i e) ss) K X σ S := h
theorem st_unp {is : List Nat} {e : Ex} (h : wpE G e σ S (fun d S1 => match tgW (.tp is) d σ with | some σ' => wpSs G ss K X σ' S1 | none => False) (fun x S1 => X x σ S1)) : wpSs G (.cons (.unp is e) ss) K X σ S := h
theorem st_unpl {is : List Nat} {e : Ex} (h : wpE G e σ S (fun d S1 => match d with | .ref a => (match rd S1 a with | some ds => (match tgW (.tp is) (.tup ds) σ with | some σ' => wpSs G ss K X σ' S1 | none => False) | none => False) | _ => False) (fun x S1 => X x σ S1)) : wpSs G (.cons (.unpl is e) ss) K X σ S := h
theorem st_unpa {o o2 e : Ex} {f f2 : Nat} (h : wpE G e σ S (fun d S1 => match d with | .tup [a, b] => wpE G o σ S1 (fun x S2 => putatW x f a S2 (fun S3 => wpE G o2 σ S3 (fun y S4 => putatW y f2 b S4 (fun S5 => wpSs G ss K X σ S5)) (fun x S1 => X x σ S1))) (fun x S1 => X x σ S1) | _ => False) (fun x S1 => X x σ S1)) : wpSs G (.cons (.unpa o f o2 f2 e) ss) K X σ S := h
theorem st_setix {o i e : Ex} (h : wpE G e σ S (fun v S1 => wpE G o σ S1 (fun x S2 => wpE G i σ S2 (fun y S3 => setixW x y v S3 (fun S4 => wpSs G ss K X σ S4)) (fun x S1 => X x σ S1)) (fun x S1 => X x σ S1)) (fun x S1 => X x σ S1)) : wpSs G (.cons (.setix o i e) ss) K X σ S := h
theorem st_setat {o : Ex} {f : Nat} {e : Ex} (h : wpE G e σ S (fun v S1 => wpE G o σ S1 (fun x S2 => match x with | .ref p => (match S2 p with | some (.ins c fs) => fs.length < 1000 ∧ wpSs G ss K X σ (S2.upd p (.ins c (fput f v fs))) | _ => False) | _ => False) (fun x S1 => X x σ S1)) (fun x S1 => X x σ S1)) : wpSs G (.cons (.setat o f e) ss) K X σ S := h
theorem st_aug {i : Nat} {op : Bop} {e : Ex} (h : match σ.get i with | some x => wpE G e σ S (fun y S1 => augW op x y S1 (fun z S2 => wpSs G ss K X (σ.set i (some z)) S2)) (fun x S1 => X x σ S1) | none => False) : wpSs G (.cons (.aug i op e) ss) K X σ S := h
theorem st_augat {o : Ex} {f : Nat} {op : Bop} {e : Ex} (h : wpE G o σ S (fun x S1 => match x with | .ref p => (match S1 p with | some (.ins c fs) => (match fget fs f with | some d => wpE G e σ S1 (fun y S2 => augW op d y S2 (fun z S3 => (match S3 p with | some (.ins c' fs') => c' = c ∧ fs'.length < 1000 ∧ wpSs G ss K X σ (S3.upd p (.ins c' (fput f z fs'))) | _ => False))) (fun x S1 => X x σ S1) | none => False) | _ => False) | _ => False) (fun x S1 => X x σ S1)) :
    wpSs G (.cons (.augat o f op e) ss) K X σ S := h
theorem st_ife {c : Ex} {a b : Stms} (h : wpT G c σ S (fun r S1 => if r = true then wpSs G a { K with nx := fun σ' S' => wpSs G ss K X σ' S' } X σ S1 else wpSs G b { K with nx := fun σ' S' => wpSs G ss K X σ' S' } X σ S1) (fun x S1 => X x σ S1)) : wpSs G (.cons (.ife c a b) ss) K X σ S := h
theorem st_whl {c : Ex} {b : Stms} (h : whlW (fun σ S Q => wpT G c σ S Q (fun x S1 => X x σ S1)) (fun K σ S => wpSs G b K X σ S) { K with nx := fun σ' S' => wpSs G ss K X σ' S' } σ S) : wpSs G (.cons (.whl c b) ss) K X σ S := h
theorem st_for {t : Tg} {it : Itr} {b : Stms} (h : wpI G it σ S (fun ds live S1 => forW live t (fun K σ S => wpSs G b K X σ S) { K with nx := fun σ' S' => wpSs G ss K X σ' S' } ds σ S1) (fun x S1 => X x σ S1)) : wpSs G (.cons (.for_ t it b) ss) K X σ S := h
theorem st_ret {e : Ex} (h : wpE G e σ S K.rt (fun x S1 => X x σ S1)) : wpSs G (.cons (.ret e) ss) K X σ S := h
theorem st_brk (h : K.bk σ S) : wpSs G (.cons .brk ss) K X σ S := h
theorem st_cnt (h : K.ct σ S) : wpSs G (.cons .cnt ss) K X σ S := h
theorem st_pass (h : wpSs G ss K X σ S) : wpSs G (.cons .pass ss) K X σ S := h
theorem st_ex {e : Ex} (h : wpE G e σ S (fun _ S1 => wpSs G ss K X σ S1) (fun x S1 => X x σ S1)) : wpSs G (.cons (.ex e) ss) K X σ S := h
theorem st_raise {c : Nat} {es : Exs} (h : wpEs G es σ S (fun ds S1 => ds.length = (G.xfl c).length ∧ X ⟨c, ((G.xfl c).zip ds).reverse⟩ σ S1) (fun x S1 => X x σ S1)) : wpSs G (.cons (.raise c es) ss) K X σ S := h
theorem st_try {b : Stms} {hs : List (Nat × Su)} (h : wpSs G b { K with nx := fun σ' S' => wpSs G ss K X σ' S' } (fun x σ' S' => tryW G hs x { K with nx := fun σ' S' => wpSs G ss K X σ' S' } X σ' S') σ S) : wpSs G (.cons (.try_ b hs) ss) K X σ S := h
end
end Mini
end L2
/-! Mini, part R: the tape, lists that are made one by one -/
namespace L2
namespace Mini
open PySem PySem.Spec PyProof.Rows
theorem Sx.none_at {S S' : Sto} (h : Sx S S') {p : Addr} (n : S' p = none) : S p = none := by
  cases e : S p with
  | none => rfl
  | some c => rw [h p c e] at n; cases n
abbrev sFar : D := .str [102, 97, 114]
abbrev sTrm : D := .str [116, 101, 114, 109]
theorem sz8 : (8 ≤ sizeLine) = True := sz_le (by omega)
theorem sz9 : (9 ≤ sizeLine) = True := sz_le (by omega)
theorem sz10 : (10 ≤ sizeLine) = True := sz_le (by omega)
theorem sz12 : (12 ≤ sizeLine) = True := sz_le (by omega)
theorem sz13 : (13 ≤ sizeLine) = True := sz_le (by omega)
theorem sz14 : (14 ≤ sizeLine) = True := sz_le (by omega)
theorem sz15 : (15 ≤ sizeLine) = True := sz_le (by omega)
theorem sz16 : (16 ≤ sizeLine) = True := sz_le (by omega)
theorem sz17 : (17 ≤ sizeLine) = True := sz_le (by omega)
theorem sz18 : (18 ≤ sizeLine) = True := sz_le (by omega)
theorem sz19 : (19 ≤ sizeLine) = True := sz_le (by omega)
theorem sz20 : (20 ≤ sizeLine) = True := sz_le (by omega)
structure Tp (t c : Addr) (S : Sto) : Prop where
  ne : c ≠ t
  at_ : ∃ s : Int, S t = some (.lst [.ref c, .int s])
  cs : ∃ l : List Int, S c = some (.lst (l.map D.int))
/-- all but the tape -/
def Sd (t c : Addr) (S S' : Sto) : Prop := ∀ a d, a ≠ t → a ≠ c → S a = some d → S' a = some d
theorem Sd.refl (t c : Addr) (S : Sto) : Sd t c S S := fun _ _ _ _ h => h
theorem Sd.trans {t c : Addr} {S S1 S2 : Sto} (a : Sd t c S S1) (b : Sd t c S1 S2) : Sd t c S S2 := fun x d h1 h2 h => b x d h1 h2 (a x d h1 h2 h)
theorem Sx.d {S S' : Sto} (h : Sx S S') (t c : Addr) : Sd t c S S' := fun a d _ _ q => h a d q
theorem Tp.sx {t c : Addr} {S S' : Sto} (h : Tp t c S) (x : Sx S S') : Tp t c S' := ⟨h.ne, let ⟨s, e⟩ := h.at_; ⟨s, x _ _ e⟩, let ⟨l, e⟩ := h.cs; ⟨l, x _ _ e⟩⟩
theorem fmod_lt {i m : Int} (h : 0 < m) : 0 ≤ i.fmod m ∧ i.fmod m < m := ⟨Int.fmod_nonneg_of_pos i h, Int.fmod_lt_of_pos i h⟩
theorem ixN_0 {n : Nat} (h : 0 < n) : ixN n 0 = some 0 := by
  unfold ixN
  rw [if_pos (by omega), if_pos (by omega)]
  rfl
def forBody : Stms → Stms
  | .cons (.for_ _ _ b) _ => b
  | .cons _ r => forBody r
  | .nil => .nil
mutual
def pl : D → Bool
  | .int _ => true
  | .str l => l.all fun c => decide (c < 0x110000)
  | .tup ds => decide (ds.length ≤ 1000) && pls ds
  | _ => false
def pls : List D → Bool
  | [] => true
  | d :: ds => pl d && pls ds
end
theorem pls_get : ∀ {ds : List D} {k : Nat} {d : D}, pls ds = true → ds[k]? = some d → pl d = true ∧ dd d ≤ dds ds
  | [], _, _, _, e => by simp at e
  | a :: ds, 0, d, h, e => by
    cases e
    simp only [pls, Bool.and_eq_true] at h
    exact ⟨h.1, by simp only [dds]; omega⟩
  | a :: ds, k + 1, d, h, e => by
    simp only [pls, Bool.and_eq_true] at h
    have := pls_get h.2 (by simpa using e)
    exact ⟨this.1, by simp only [dds]; omega⟩
theorem trues_gd : ∀ n, gds (List.replicate n (D.bl true)) = true
  | 0 => rfl
  | n + 1 => by rw [List.replicate_succ]; simp [gds, gd, trues_gd n]
theorem trues_any : ∀ n, (List.replicate n (D.bl true)).any (fun d => deq d (.bl false)) = false
  | 0 => rfl
  | n + 1 => by rw [List.replicate_succ, List.any_cons, trues_any n]; rfl
theorem fm_true {α : Type} : ∀ l : List α, l.filterMap (fun _ => some (D.bl true)) = List.replicate l.length (D.bl true)
  | [] => rfl
  | a :: l => by rw [List.filterMap_cons, fm_true l]; rfl
theorem new_tp {t c p : Addr} {S : Sto} (h : Tp t c S) (hp : S p = none) : p ≠ t ∧ p ≠ c := by
  obtain ⟨s, es⟩ := h.at_
  obtain ⟨l, el⟩ := h.cs
  exact ⟨fun e => (by rw [← e, hp] at es; cases es), fun e => (by rw [← e, hp] at el; cases el)⟩
def Sxm (p l : Addr) (S S' : Sto) : Prop := ∀ a d, a ≠ p → a ≠ l → S a = some d → S' a = some d
theorem Sxm.refl (p l : Addr) (S : Sto) : Sxm p l S S := fun _ _ _ _ h => h
theorem Sxm.trans {p l : Addr} {S S1 S2 : Sto} (a : Sxm p l S S1) (b : Sxm p l S1 S2) : Sxm p l S S2 := fun x d h1 h2 h => b x d h1 h2 (a x d h1 h2 h)
theorem sxm_put {p l : Addr} {S : Sto} {c : Cell} : Sxm p l S (S.upd p c) := fun x d h1 _ hd => by rw [Sto.upd_ne h1]; exact hd
theorem fresh_sx {p l : Addr} {S S1 S2 : Sto} (x : Sx S S1) (y : Sxm p l S1 S2) (hp : S p = none) (hl : S l = none) : Sx S S2 := fun a d h =>
  y a d (fun e => by rw [e, hp] at h; cases h) (fun e => by rw [e, hl] at h; cases h) (x a d h)
/-- machine_at -/
theorem goW_inv {live : Sto → Prop} {turn : D → (Sto → Prop) → Sto → Prop} {Q : Sto → Prop} (I : List D → Sto → Prop) (ht : ∀ d ds S K, I (d :: ds) S → (∀ S', I ds S' → K S') → turn d K S) (hl : ∀ ds S, I ds S → live S) (hq : ∀ S, I [] S → Q S) :
    ∀ (ds : List D) (S : Sto), I ds S → goW live turn ds S Q
  | [], S, h => ⟨hl _ _ h, hq S h⟩
  | d :: ds, S, h => ⟨hl _ _ h, ht d ds S _ h fun S' h' => goW_inv I ht hl hq ds S' h'⟩
theorem Tp.new {t c p : Addr} {S : Sto} {x : Cell} (h : Tp t c S) (hp : S p = none) : Tp t c (S.upd p x) := h.sx (Sx.new hp)
theorem Tp.put {t c p : Addr} {S : Sto} {x : Cell} (h : Tp t c S) (h1 : p ≠ t) (h2 : p ≠ c) : Tp t c (S.upd p x) := ⟨h.ne, let ⟨s, e⟩ := h.at_; ⟨s, by rw [Sto.upd_ne (Ne.symm h1)]; exact e⟩, let ⟨l, e⟩ := h.cs; ⟨l, by rw [Sto.upd_ne (Ne.symm h2)]; exact e⟩⟩
theorem Sd.fresh {t c p : Addr} {S S1 : Sto} {x : Cell} (h : Sd t c S S1) (hp : S1 p = none) : Sd t c S (S1.upd p x) := h.trans (Sx.d (Sx.new hp) t c)
theorem Sd.over {t c p : Addr} {S S1 : Sto} {x : Cell} (h : Sd t c S S1) (hp : S p = none) : Sd t c S (S1.upd p x) := fun a d h1 h2 hd => by
  have ne : a ≠ p := new_ne hd hp
  rw [Sto.upd_ne ne]; exact h a d h1 h2 hd
theorem Sd.none_of {t c p : Addr} {S S1 : Sto} (h : Sd t c S S1) (h1 : p ≠ t) (h2 : p ≠ c) (hp : S1 p = none) : S p = none := by
  cases e : S p with
  | none => rfl
  | some x => rw [h p x h1 h2 e] at hp; cases hp
theorem pdos_get : ∀ (ds : List D) (j : Nat), (pdos ds)[j]? = (ds[j]?).map pdo
  | [], j => by simp [pdos]
  | d :: ds, 0 => by simp [pdos]
  | d :: ds, j + 1 => by simpa [pdos] using pdos_get ds j
theorem gds_get : ∀ {ds : List D} {j : Nat} {d : D}, gds ds = true → ds[j]? = some d → gd d = true
  | [], _, _, _, e => by simp at e
  | a :: ds, 0, d, h, e => by cases e; simp only [gds, Bool.and_eq_true] at h; exact h.1
  | a :: ds, j + 1, d, h, e => by simp only [gds, Bool.and_eq_true] at h; exact gds_get h.2 (by simpa using e)
/-- list.index of plain data -/
theorem bm_index {a : Addr} {ds : List D} {y d : D} {j : Nat} {S : Sto} {Q : QD} (h : S a = some (.lst ds)) (hy : gd y = true) (hd : gds ds = true) (d1 : dd y ≤ 60) (d2 : dds ds ≤ 60) (hj : ds[j]? = some d) (e : deq d y = true) (hno : ∀ m d', m < j → ds[m]? = some d' → deq d' y = false) (q : Q (.int (j : Nat)) S) : bmW .index (.ref a) [y] S Q := by
  unfold bmW
  dsimp only
  rw [h]
  refine ⟨pdo y, pdos ds, j, pdo d, pd_of S hy, pds_of S hd, by rw [dd_pdo]; exact d1, by rw [dds_pdo]; exact d2, by rw [pdos_get, hj]; rfl, by rw [deq_pdo d y (gds_get hd hj) hy]; exact e, fun m z' hm hz => ?_, q⟩
  rw [pdos_get] at hz
  cases hq : ds[m]? with
  | none => rw [hq] at hz; cases hz
  | some d' => rw [hq] at hz; cases hz; rw [deq_pdo d' y (gds_get hd hq) hy]; exact hno m d' hm hq
/-! ### dicts with numbers as keys -/
def dN (kv : List (Nat × D)) : List (Ky × D) := kv.map fun p => (Sum.inl (p.1 : Int), p.2)
def kget {α : Type} (kv : List (Nat × α)) (n : Nat) : Option α := (kv.find? fun p => decide (p.1 = n)).map (·.2)
theorem inl_iff {a b : Nat} : ((Sum.inl (a : Int) : Ky) = Sum.inl (b : Int)) ↔ a = b := ⟨fun h => by injection h with h; exact Int.ofNat.inj h, fun h => by rw [h]⟩
theorem dget_N (kv : List (Nat × D)) (n : Nat) : dget (dN kv) (.inl (n : Int)) = kget kv n := by
  induction kv with
  | nil => rfl
  | cons p kv ih =>
    unfold dget kget dN at *
    simp only [List.map_cons, List.find?_cons]
    by_cases h : p.1 = n
    · subst h; simp
    · have h2 : ¬ (Sum.inl (p.1 : Int) : Ky) = Sum.inl (n : Int) := fun e => h (inl_iff.mp e)
      simp only [h, h2, decide_false]
      exact ih
theorem kget_none {α : Type} {kv : List (Nat × α)} {n : Nat} : kget kv n = none ↔ n ∉ kv.map (·.1) := by
  unfold kget
  rw [Option.map_eq_none_iff, List.find?_eq_none]
  simp only [List.mem_map, decide_eq_true_eq]
  exact ⟨fun h ⟨p, hp, e⟩ => h p hp e, fun h p hp e => h ⟨p, hp, e⟩⟩
theorem kget_mem {α : Type} {kv : List (Nat × α)} {n : Nat} {d : α} (h : kget kv n = some d) : (n, d) ∈ kv := by
  unfold kget at h
  rw [Option.map_eq_some_iff] at h
  obtain ⟨p, hp, rfl⟩ := h
  have := List.find?_some hp
  rw [decide_eq_true_eq] at this
  rw [← this]
  exact List.mem_of_find?_eq_some hp
theorem kget_snoc {α : Type} {kv : List (Nat × α)} {n m : Nat} {d : α} (h : n ∉ kv.map (·.1)) : kget (kv ++ [(n, d)]) m = if m = n then some d else kget kv m := by
  unfold kget
  rw [List.find?_append]
  by_cases e : m = n
  · subst e
    have : kv.find? (fun p => decide (p.1 = m)) = none := by
      rw [List.find?_eq_none]
      intro p hp
      simp only [decide_eq_true_eq]
      exact fun q => h (List.mem_map.mpr ⟨p, hp, q⟩)
    rw [this]
    simp
  · rw [if_neg e]
    cases q : kv.find? (fun p => decide (p.1 = m)) with
    | none =>
      have : ¬ n = m := fun z => e z.symm
      simp [this]
    | some p => simp
theorem dput_new {kv : List (Nat × D)} {n : Nat} {d : D} (h : n ∉ kv.map (·.1)) : dput (dN kv) (.inl (n : Int)) d = dN (kv ++ [(n, d)]) := by
  unfold dput
  have : ((dN kv).any fun p => decide (p.1 = Sum.inl (n : Int))) = false := by
    rw [List.any_eq_false]
    intro p hp
    unfold dN at hp
    obtain ⟨q, hq, rfl⟩ := List.mem_map.mp hp
    simp only [decide_eq_true_eq]
    exact fun e => h (List.mem_map.mpr ⟨q, hq, inl_iff.mp e⟩)
  rw [if_neg (by rw [this]; exact Bool.false_ne_true)]
  simp [dN]
/-- the key is there: its value is another one -/
theorem dput_old {kv : List (Nat × D)} {n : Nat} {d : D} (h : n ∈ kv.map (·.1)) : dput (dN kv) (.inl (n : Int)) d = dN (kv.map fun p => if p.1 = n then (p.1, d) else p) := by
  unfold dput
  have : ((dN kv).any fun p => decide (p.1 = Sum.inl (n : Int))) = true := by
    rw [List.any_eq_true]
    obtain ⟨p, hp, e⟩ := List.mem_map.mp h
    exact ⟨(Sum.inl (p.1 : Int), p.2), List.mem_map.mpr ⟨p, hp, rfl⟩, by simp only [decide_eq_true_eq]; rw [e]⟩
  rw [if_pos this]
  simp only [dN, List.map_map]
  refine List.map_congr_left fun p _ => ?_
  simp only [Function.comp]
  by_cases e : p.1 = n
  · rw [if_pos e, if_pos (inl_iff.mpr e)]
  · rw [if_neg e, if_neg fun z => e (inl_iff.mp z)]
/-- distinct numbers below N are no more than N -/
theorem nodup_len : ∀ (N : Nat) (l : List Nat), l.Nodup → (∀ x ∈ l, x < N) → l.length ≤ N
  | 0, [], _, _ => Nat.le_refl _
  | 0, x :: l, _, h => absurd (h x List.mem_cons_self) (Nat.not_lt_zero _)
  | N + 1, l, hn, h => by
    by_cases hm : N ∈ l
    · have h1 := nodup_len N (l.erase N) (hn.erase N) fun x hx => by
        have := (List.Nodup.mem_erase_iff hn).mp hx
        have h2 := h x this.2
        have h3 := this.1
        omega
      rw [List.length_erase_of_mem hm] at h1
      omega
    · have := nodup_len N l hn fun x hx => by
        have h2 := h x hx
        have h3 : x ≠ N := fun e => hm (by rw [← e]; exact hx)
        omega
      omega
end Mini
end L2
/-! Mini, part T: terms -/
namespace L2
namespace Mini
open PySem PySem.Spec PyProof.Rows
inductive Tm where | av (n : Nat) | nm (l : List Nat) | fn (t : Tm) | cl (t u : Tm)
abbrev sAt : D := .str [97, 116]
abbrev sNm : D := .str [110, 97, 109, 101]
abbrev sFn : D := .str [102, 117, 110]
abbrev sCl : D := .str [99, 97, 108, 108]
def enc : Tm → D
  | .av n => .tup [sAt, .int n]
  | .nm l => .tup [sNm, .str l]
  | .fn t => .tup [sFn, enc t]
  | .cl t u => .tup [sCl, enc t, enc u]
def sz : Tm → Nat
  | .av _ => 1
  | .nm _ => 1
  | .fn t => sz t + 1
  | .cl t u => sz t + sz u + 1
def dp : Tm → Nat
  | .av _ => 1
  | .nm _ => 1
  | .fn t => dp t + 1
  | .cl t u => max (dp t) (dp u) + 1
def low (c : Nat) : Bool := decide (97 ≤ c) && decide (c ≤ 122)
def dig (c : Nat) : Bool := decide (48 ≤ c) && decide (c ≤ 57)
/-- a name: of one to twelve signs, no word of the grammar -/
def nameB (l : List Nat) : Bool := decide (1 ≤ l.length) && decide (l.length ≤ 12) && !(l == [108, 101, 116]) && !(l == [105, 110]) && (match l with | a :: r => low a && r.all (fun c => low c || dig c) | [] => false)
theorem nameB_lt {l : List Nat} (h : nameB l = true) : l.all (fun c => decide (c < 0x110000)) = true := by
  cases l with
  | nil => cases h
  | cons a r =>
    simp only [nameB, Bool.and_eq_true, low, dig, Bool.or_eq_true, decide_eq_true_eq, List.all_eq_true] at h
    simp only [List.all_eq_true, List.mem_cons, decide_eq_true_eq]
    rintro c (rfl | hc)
    · have := h.2.1; omega
    · have := h.2.2 c hc; omega
theorem nameB_len {l : List Nat} (h : nameB l = true) : l.length ≤ 1000000 := by
  simp only [nameB, Bool.and_eq_true, decide_eq_true_eq] at h
  have := h.1.1.1.2
  omega
def good : Tm → Bool
  | .av _ => true
  | .nm l => nameB l
  | .fn t => good t
  | .cl t u => good t && good u
theorem enc_gd : ∀ t : Tm, good t = true → gd (enc t) = true
  | .av _, _ => rfl
  | .nm l, h => by
    have := nameB_lt (l := l) (by simpa [good] using h)
    simp only [enc, gd, gds] at *
    simp [this]
  | .fn t, h => by
    have := enc_gd t h
    simp [enc, gd, gds, this]
  | .cl t u, h => by
    simp only [good, Bool.and_eq_true] at h
    have h1 := enc_gd t h.1
    have h2 := enc_gd u h.2
    simp [enc, gd, gds, h1, h2]
theorem sz_pos (t : Tm) : 1 ≤ sz t := by cases t <;> simp [sz]
theorem dp_pos (t : Tm) : 1 ≤ dp t := by cases t <;> simp [dp]
theorem enc_tup (t : Tm) : ∃ a ds, enc t = .tup (a :: ds) := by cases t <;> exact ⟨_, _, rfl⟩
/-- closed within a functions -/
def clo : Nat → Tm → Bool
  | a, .av n => decide (n < a)
  | _, .nm _ => true
  | a, .fn t => clo (a + 1) t
  | a, .cl t u => clo a t && clo a u
/-- what is built -/
def fi : Tm → Nat
  | .av _ => 0
  | .nm _ => 0
  | .fn t => fi t + 1
  | .cl t u => fi t + fi u + 1
theorem fi_sz : ∀ t, sz t ≤ 2 * fi t + 1
  | .av _ => by simp [sz]
  | .nm _ => by simp [sz]
  | .fn t => by have := fi_sz t; simp only [sz, fi]; omega
  | .cl t u => by have := fi_sz t; have := fi_sz u; simp only [sz, fi]; omega
theorem fi_dp : ∀ t, dp t ≤ fi t + 1
  | .av _ => by simp [dp]
  | .nm _ => by simp [dp]
  | .fn t => by have := fi_dp t; simp only [dp, fi]; omega
  | .cl t u => by have := fi_dp t; have := fi_dp u; simp only [dp, fi]; omega
theorem enc_pl : ∀ t : Tm, good t = true → pl (enc t) = true
  | .av _, _ => rfl
  | .nm l, h => by
    have := nameB_lt (l := l) (by simpa [good] using h)
    simp only [enc, pl, pls] at *
    simp [this]
  | .fn t, h => by
    have := enc_pl t h
    simp [enc, pl, pls, this]
  | .cl t u, h => by
    simp only [good, Bool.and_eq_true] at h
    have h1 := enc_pl t h.1
    have h2 := enc_pl u h.2
    simp [enc, pl, pls, h1, h2]
theorem enc_dd : ∀ t : Tm, dd (enc t) ≤ dp t
  | .av _ => by simp [enc, dd, dds, dp]
  | .nm _ => by simp [enc, dd, dds, dp]
  | .fn t => by have := enc_dd t; simp only [enc, dd, dds, dp]; omega
  | .cl t u => by have := enc_dd t; have := enc_dd u; simp only [enc, dd, dds, dp]; omega
def fns : Nat → Tm → Tm
  | 0, t => t
  | k + 1, t => fns k (.fn t)
def cls : Tm → List Tm → Tm
  | h, [] => h
  | h, a :: l => cls (.cl h a) l
def num : Nat → Tm → Tm
  | 0, t => t
  | k + 1, t => num k (.cl (.av 1) t)
def knB (u : Tm) : Bool := good u && clo 0 u && decide (dp u ≤ 9) && decide (sz u ≤ 20)
theorem knB_num : ∀ k, k < 4 → knB (.fn (.fn (num k (.av 0)))) = true := by decide
/-- the greatest body -/
def fm : Tm → Nat
  | .av _ => 0
  | .nm _ => 0
  | .fn t => sz t
  | .cl t u => max (fm t) (fm u)
theorem fm_sz : ∀ t, fm t ≤ sz t
  | .av _ => by simp [fm]
  | .nm _ => by simp [fm]
  | .fn t => by simp only [fm, sz]; omega
  | .cl t u => by have := fm_sz t; have := fm_sz u; simp only [fm, sz]; omega
/-- what is drawn: closed, of a size, of a depth, of small bodies -/
structure Tt (a b : Nat) (u : Tm) : Prop where
  g : good u = true
  c : clo 0 u = true
  d : dp u ≤ a
  z : sz u ≤ b
  f : fm u ≤ 2 * a + 2
theorem Tt.mono {a b a' b' : Nat} {u : Tm} (h : Tt a b u) (ha : a ≤ a') (hb : b ≤ b') : Tt a' b' u := ⟨h.g, h.c, Nat.le_trans h.d ha, Nat.le_trans h.z hb, by have := h.f; omega⟩
theorem Tt.of_kn {u : Tm} (h : knB u = true) : Tt 9 20 u := by
  simp only [knB, Bool.and_eq_true, decide_eq_true_eq] at h
  have := fm_sz u
  exact ⟨h.1.1.1, h.1.1.2, h.1.2, h.2, by omega⟩
theorem Tt.of_fi {u : Tm} {k : Nat} (g : good u = true) (c : clo 0 u = true) (f : fi u + 1 ≤ k) : Tt k (2 * k) u := by
  have h1 := fi_dp u
  have h2 := fi_sz u
  have h3 := fm_sz u
  exact ⟨g, c, by omega, by omega, by omega⟩
theorem Tt.cls {a b : Nat} : ∀ {l : List Tm} {h : Tm} {a' b' : Nat}, Tt a' b' h → a ≤ a' → (∀ u ∈ l, Tt a b u) → Tt (a' + l.length) (b' + l.length * (b + 1)) (cls h l)
  | [], h, a', b', th, _, _ => by simpa [Mini.cls] using th
  | u :: l, h, a', b', th, ha, hu => by
    have tu := hu u List.mem_cons_self
    have t1 : Tt (a' + 1) (b' + (b + 1)) (.cl h u) := by
      have h1 := th.d
      have h2 := tu.d
      have h3 := th.z
      have h4 := tu.z
      have h5 := th.f
      have h6 := tu.f
      exact ⟨by simp [good, th.g, tu.g], by simp [clo, th.c, tu.c], by simp only [dp]; omega, by simp only [sz]; omega, by simp only [fm]; omega⟩
    have := Tt.cls (l := l) t1 (by omega) fun v hv => hu v (List.mem_cons_of_mem _ hv)
    refine this.mono (by simp only [List.length_cons]; omega) ?_
    simp only [List.length_cons, Nat.add_mul, Nat.one_mul]
    omega
/-- what a comprehension of drawn terms makes -/
structure Li (t c p : Addr) (k : Nat) (P : Tm → Prop) (S0 : Sto) (ds : List D) (S : Sto) : Prop where
  tp : Tp t c S
  x : Sd t c S0 S
  l : ∃ us : List Tm, S p = some (.lst (us.map enc)) ∧ (∀ u ∈ us, P u) ∧ us.length + ds.length = k
theorem Li.push {t c p : Addr} {k : Nat} {P : Tm → Prop} {S0 S S' : Sto} {d : D} {ds : List D} {u : Tm} (h : Li t c p k P S0 (d :: ds) S) (h1 : p ≠ t) (h2 : p ≠ c) (hp : S0 p = none) (hk : k < 1000) (tp : Tp t c S') (x : Sd t c S S') (hu : P u) :
    ∃ acc, S' p = some (.lst acc) ∧ acc.length < sizeLine ∧ Li t c p k P S0 ds (S'.upd p (.lst (acc ++ [enc u]))) := by
  obtain ⟨us, e, ha, hl⟩ := h.l
  simp only [List.length_cons] at hl
  refine ⟨us.map enc, x _ _ h1 h2 e, of_eq_true (sz_lt (by rw [List.length_map]; omega)), tp.put h1 h2, (h.x.trans x).over hp, us ++ [u], by rw [Sto.upd_same]; simp, fun v hv => ?_, by simp only [List.length_append, List.length_cons, List.length_nil]; omega⟩
  rcases List.mem_append.mp hv with hv | hv
  · exact ha v hv
  · rw [List.mem_singleton.mp hv]; exact hu
/-- a term is no text -/
theorem eqW_enc_str {t : Tm} {l : List Nat} {neg : Bool} {S : Sto} {Q : QD} (hg : good t = true) (hl : l.all (fun c => decide (c < 0x110000)) = true) (q : Q (.bl (neg ^^ false)) S) : eqW (enc t) (.str l) neg S Q := by
  have e : deq (enc t) (.str l) = false := by cases t <;> rfl
  refine eqW_of (enc_gd t hg) (by simpa [gd] using hl) (Nat.le_trans (Nat.min_le_right _ _) (Nat.zero_le 190)) ?_
  rw [e]
  exact q
end Mini
end L2
/-! the program of k02_tokens, printed by gen.py: its text by places, in the small language, the rules that it is by -/
namespace L2
namespace Mini
namespace K02
open PySem PySem.Spec PyProof.Rows
def top (i : Nat) : Stmt := PySem.Challenge.pw_normalhouse_k02_tokens.main.body.getD i (.Pass ⟨0, 0, 0, 0⟩)
/-- tokens(text, found, reader) -/
abbrev s0 : Stmt := top 11
def ir0 : Stms :=
  (.cons (.set 1 (.lst .nil))
  (.cons (.set 2 (.new 0 (.cons (.var 0) .nil)))
  (.cons (.whl (.cmp .ne (.att (.var 2) 4) (.lit (.str [101, 110, 100]))) (.cons (.ex (.bm .append (.var 1) (.cons (.tup (.cons (.att (.var 2) 5) (.cons (.att (.var 2) 0) .nil))) .nil)))
  (.cons (.ex (.mth 2 (.var 2) .nil))
  .nil)))
  (.cons (.ret (.var 1))
  .nil))))
/-- _law_bag(script, k, cell) -/
abbrev s1 : Stmt := top 13
def ir1 : Stms :=
  (.cons (.set 2 (.lit (.int 0)))
  (.cons (.ife (.cmp .lt (.var 1) (.bi .len (.cons (.var 0) .nil))) (.cons (.set 2 (.bi .int (.cons (.ix (.var 0) (.var 1)) .nil)))
  .nil) .nil)
  (.cons (.ret (.lst (.cons (.lit (.int 0)) (.cons (.bin .add (.lit (.int 1511)) (.bin .mul (.lit (.int 48611)) (.var 1))) (.cons (.lit (.int 0)) (.cons (.var 2) .nil))))))
  .nil)))
/-- _law_draw(bag, many, rest, seed) -/
abbrev s2 : Stmt := top 14
def ir2 : Stms :=
  (.cons (.ife (.cmp .lt (.var 1) (.lit (.int 1))) (.cons (.ret (.lit (.int 0)))
  .nil) .nil)
  (.cons (.ife (.cmp .eq (.ix (.var 0) (.lit (.int 0))) (.lit (.int 0))) (.cons (.setix (.var 0) (.lit (.int 2)) (.bin .add (.ix (.var 0) (.lit (.int 2))) (.lit (.int 1))))
  (.cons (.set 3 (.bin .mod (.bi .int (.cons (.bin .add (.bin .add (.bin .add (.bin .mul (.ix (.var 0) (.lit (.int 1))) (.lit (.int 48271))) (.bin .mul (.ix (.var 0) (.lit (.int 3))) (.lit (.int 69621)))) (.bin .mul (.ix (.var 0) (.lit (.int 2))) (.lit (.int 16807)))) (.lit (.int 11))) .nil)) (.lit (.int 2147483647))))
  (.cons (.setix (.var 0) (.lit (.int 0)) (.bin .add (.bin .mul (.var 3) (.lit (.int 2147483629))) (.bin .mod (.bi .int (.cons (.bin .add (.bin .mul (.var 3) (.var 3)) (.ix (.var 0) (.lit (.int 3)))) .nil)) (.lit (.int 2147483629)))))
  (.cons (.ife (.and (.cmp .eq (.ix (.var 0) (.lit (.int 2))) (.lit (.int 1))) (.cmp .ge (.ix (.var 0) (.lit (.int 3))) (.bin .pow (.lit (.int 10)) (.lit (.int 18))))) (.cons (.setix (.var 0) (.lit (.int 0)) (.ix (.var 0) (.lit (.int 3))))
  .nil) .nil)
  (.cons (.setix (.var 0) (.lit (.int 1)) (.var 3))
  .nil))))) .nil)
  (.cons (.set 2 (.ix (.var 0) (.lit (.int 0))))
  (.cons (.setix (.var 0) (.lit (.int 0)) (.bin .fdiv (.var 2) (.var 1)))
  (.cons (.ret (.bin .mod (.bi .int (.cons (.var 2) .nil)) (.var 1)))
  .nil)))))
/-- _law_one(bag, row) -/
abbrev s3 : Stmt := top 15
def ir3 : Stms :=
  (.cons (.ret (.ix (.var 1) (.call 2 (.cons (.var 0) (.cons (.bi .len (.cons (.var 1) .nil)) .nil)))))
  .nil)
/-- _law_gap(bag, left, right, signs, needed, pick) -/
abbrev s4 : Stmt := top 16
def ir4 : Stms :=
  (.cons (.set 3 (.lit (.str [97, 98, 99, 100, 101, 102, 103, 104, 105, 106, 107, 108, 109, 110, 111, 112, 113, 114, 115, 116, 117, 118, 119, 120, 121, 122, 48, 49, 50, 51, 52, 53, 54, 55, 56, 57])))
  (.cons (.set 4 (.and (.cmp .in_ (.ix (.var 1) (.neg (.lit (.int 1)))) (.var 3)) (.and (.cmp .in_ (.ix (.var 2) (.lit (.int 0))) (.var 3)) (.not (.and (.cmp .in_ (.ix (.var 1) (.lit (.int 0))) (.slc (.var 3) (.some (.lit (.int 26))) .none)) (.cmp .in_ (.ix (.var 2) (.lit (.int 0))) (.slc (.var 3) .none (.some (.lit (.int 26))))))))))
  (.cons (.set 5 (.call 2 (.cons (.var 0) (.cons (.lit (.int 6)) .nil))))
  (.cons (.ife (.and (.cmp .lt (.var 5) (.lit (.int 2))) (.not (.var 4))) (.cons (.ret (.lit (.str [])))
  .nil) .nil)
  (.cons (.ife (.cmp .lt (.var 5) (.lit (.int 5))) (.cons (.ret (.ix (.lst (.cons (.lit (.str [32])) (.cons (.lit (.str [32, 32, 32])) (.cons (.lit (.str [10])) (.cons (.lit (.str [32, 10, 32])) .nil))))) (.call 2 (.cons (.var 0) (.cons (.lit (.int 4)) .nil)))))
  .nil) .nil)
  (.cons (.ret (.bin .add (.bin .add (.ix (.lst (.cons (.lit (.str [35])) (.cons (.lit (.str [32, 35, 32, 59, 32, 41, 32, 36])) (.cons (.lit (.str [35, 32, 108, 101, 116, 32, 120, 32, 63])) .nil)))) (.call 2 (.cons (.var 0) (.cons (.lit (.int 3)) .nil)))) (.lit (.str [10]))) (.ix (.lst (.cons (.lit (.str [])) (.cons (.lit (.str [32, 32])) (.cons (.lit (.str [10])) (.cons (.lit (.str [35, 32, 98, 10, 32])) .nil))))) (.call 2 (.cons (.var 0) (.cons (.lit (.int 4)) .nil))))))
  .nil))))))
/-- _law_laid(bag, words, text, lines, k) -/
abbrev s5 : Stmt := top 17
def ir5 : Stms :=
  (.cons (.set 2 (.ix (.lst (.cons (.lit (.str [])) (.cons (.lit (.str [10])) (.cons (.lit (.str [32])) (.cons (.lit (.str [35, 32, 97, 10])) .nil))))) (.call 2 (.cons (.var 0) (.cons (.lit (.int 4)) .nil)))))
  (.cons (.set 3 (.lst .nil))
  (.cons (.for_ (.nm 4) (.rng (.bi .len (.cons (.var 1) .nil))) (.cons (.ex (.bm .append (.var 3) (.cons (.bin .add (.lit (.int 1)) (.bm .count (.var 2) (.cons (.lit (.str [10])) .nil))) .nil)))
  (.cons (.set 2 (.bin .add (.var 2) (.ix (.var 1) (.var 4))))
  (.cons (.ife (.cmp .lt (.bin .add (.var 4) (.lit (.int 1))) (.bi .len (.cons (.var 1) .nil))) (.cons (.set 2 (.bin .add (.var 2) (.call 4 (.cons (.var 0) (.cons (.ix (.var 1) (.var 4)) (.cons (.ix (.var 1) (.bin .add (.var 4) (.lit (.int 1)))) .nil))))))
  .nil) .nil)
  .nil))))
  (.cons (.set 2 (.bin .add (.var 2) (.ix (.lst (.cons (.lit (.str [])) (.cons (.lit (.str [10])) (.cons (.lit (.str [32, 35, 32, 101, 110, 100])) (.cons (.lit (.str [10, 10])) .nil))))) (.call 2 (.cons (.var 0) (.cons (.lit (.int 4)) .nil))))))
  (.cons (.ret (.tup (.cons (.var 2) (.cons (.bin .add (.var 3) (.lst (.cons (.bin .add (.lit (.int 1)) (.bm .count (.var 2) (.cons (.lit (.str [10])) .nil))) .nil))) .nil))))
  .nil)))))
/-- _law_word(bag, pick, word, k) -/
abbrev s6 : Stmt := top 18
def ir6 : Stms :=
  (.cons (.set 1 (.call 2 (.cons (.var 0) (.cons (.lit (.int 4)) .nil))))
  (.cons (.ife (.cmp .eq (.var 1) (.lit (.int 0))) (.cons (.ret (.call 3 (.cons (.var 0) (.cons (.lst (.cons (.lit (.str [92])) (.cons (.lit (.str [46])) (.cons (.lit (.str [40])) (.cons (.lit (.str [41])) (.cons (.lit (.str [61])) .nil)))))) .nil))))
  .nil) .nil)
  (.cons (.ife (.cmp .eq (.var 1) (.lit (.int 1))) (.cons (.ret (.call 3 (.cons (.var 0) (.cons (.lst (.cons (.lit (.str [48])) (.cons (.lit (.str [55])) (.cons (.lit (.str [49, 48])) (.cons (.lit (.str [53, 57])) (.cons (.lit (.str [54, 48])) .nil)))))) .nil))))
  .nil) .nil)
  (.cons (.ife (.cmp .eq (.var 1) (.lit (.int 2))) (.cons (.ret (.call 3 (.cons (.var 0) (.cons (.lst (.cons (.lit (.str [108, 101, 116])) (.cons (.lit (.str [105, 110])) .nil))) .nil))))
  .nil) .nil)
  (.cons (.set 2 (.ix (.lit (.str [97, 98, 99, 100, 101, 102, 103, 104, 105, 106, 107, 108, 109, 110, 111, 112, 113, 114, 115, 116, 117, 118, 119, 120, 121, 122])) (.call 2 (.cons (.var 0) (.cons (.lit (.int 26)) .nil)))))
  (.cons (.for_ (.nm 3) (.rng (.call 2 (.cons (.var 0) (.cons (.lit (.int 12)) .nil)))) (.cons (.set 2 (.bin .add (.var 2) (.ix (.lit (.str [97, 98, 99, 100, 101, 102, 103, 104, 105, 106, 107, 108, 109, 110, 111, 112, 113, 114, 115, 116, 117, 118, 119, 120, 121, 122, 48, 49, 50, 51, 52, 53, 54, 55, 56, 57])) (.call 2 (.cons (.var 0) (.cons (.lit (.int 36)) .nil))))))
  .nil))
  (.cons (.ret (.var 2))
  .nil)))))))
/-- _law_told(text, e) -/
abbrev s7 : Stmt := top 19
def ir7 : Stms :=
  (.cons (.try_ (.cons (.ret (.call 0 (.cons (.var 0) .nil)))
  .nil) [(2, .ret (.exf 1 0))])
  .nil)
/-- law(script, odd, k, bag, words, bad, due, text, lines, j) -/
abbrev s8 : Stmt := top 20
def ir8 : Stms :=
  (.cons (.set 1 (.lst (.cons (.lit (.str [97, 98, 99, 100, 101, 102, 103, 104, 105, 106, 107, 108, 109])) (.cons (.bin .mul (.lit (.str [97])) (.lit (.int 40))) (.cons (.lit (.str [48, 49])) (.cons (.lit (.str [48, 48])) (.cons (.lit (.str [54, 49])) (.cons (.lit (.str [49, 48, 48])) (.cons (.lit (.str [57, 57, 57])) (.cons (.lit (.str [59])) (.cons (.lit (.str [36])) (.cons (.lit (.str [65])) (.cons (.lit (.str [95])) (.cons (.lit (.str [33])) (.cons (.lit (.str [38])) (.cons (.lit (.str [91])) (.cons (.lit (.str [47])) (.cons (.lit (.str [60])) (.cons (.lit (.str [43])) (.cons (.lit (.str [45])) .nil))))))))))))))))))))
  (.cons (.for_ (.nm 2) (.rng (.bi .max (.cons (.lit (.int 1)) (.cons (.bi .min (.cons (.lit (.int 12)) (.cons (.bi .len (.cons (.var 0) .nil)) .nil))) .nil)))) (.cons (.set 3 (.call 1 (.cons (.var 0) (.cons (.var 2) .nil))))
  (.cons (.set 4 (.lc (.call 6 (.cons (.var 3) .nil)) (.nm 9) (.rng (.call 2 (.cons (.var 3) (.cons (.lit (.int 41)) .nil)))) .none))
  (.cons (.set 5 (.bi .len (.cons (.var 4) .nil)))
  (.cons (.ife (.cmp .eq (.call 2 (.cons (.var 3) (.cons (.lit (.int 2)) .nil))) (.lit (.int 0))) (.cons (.set 5 (.call 2 (.cons (.var 3) (.cons (.bin .add (.bi .len (.cons (.var 4) .nil)) (.lit (.int 1))) .nil))))
  (.cons (.set 4 (.bin .add (.bin .add (.slc (.var 4) .none (.some (.var 5))) (.lst (.cons (.ix (.var 1) (.call 2 (.cons (.var 3) (.cons (.lit (.int 18)) .nil)))) .nil))) (.slc (.var 4) (.some (.var 5)) .none)))
  .nil)) .nil)
  (.cons (.unp [7, 8] (.call 5 (.cons (.var 3) (.cons (.var 4) .nil))))
  (.cons (.set 6 (.ite (.cmp .lt (.var 5) (.bi .len (.cons (.var 4) .nil))) (.ix (.var 8) (.var 5)) (.lc (.tup (.cons (.ix (.var 4) (.var 9)) (.cons (.ix (.var 8) (.var 9)) .nil))) (.nm 9) (.rng (.bi .len (.cons (.var 4) .nil))) .none)))
  (.cons (.ife (.cmp .ne (.call 7 (.cons (.var 7) .nil)) (.var 6)) (.cons (.ret (.lit (.bl false)))
  .nil) .nil)
  .nil))))))))
  (.cons (.ret (.and (.cmp .eq (.call 7 (.cons (.lit (.str [])) .nil)) (.lst .nil)) (.and (.cmp .eq (.call 7 (.cons (.lit (.str [49, 50, 120, 51])) .nil)) (.lst (.cons (.tup (.cons (.lit (.str [49, 50])) (.cons (.lit (.int 1)) .nil))) (.cons (.tup (.cons (.lit (.str [120, 51])) (.cons (.lit (.int 1)) .nil))) .nil)))) (.cmp .eq (.call 7 (.cons (.lit (.str [120, 49, 50])) .nil)) (.lst (.cons (.tup (.cons (.lit (.str [120, 49, 50])) (.cons (.lit (.int 1)) .nil))) .nil))))))
  .nil)))
/-- Tokens.__init__(self, text) -/
abbrev s9 : Stmt := inClass (top 10) 0
def ir9 : Stms :=
  (.cons (.setat (.var 0) 1 (.var 1))
  (.cons (.setat (.var 0) 2 (.lit (.int 0)))
  (.cons (.setat (.var 0) 3 (.lit (.int 1)))
  (.cons (.setat (.var 0) 4 (.lit (.str [])))
  (.cons (.setat (.var 0) 5 (.lit (.str [])))
  (.cons (.setat (.var 0) 0 (.lit (.int 1)))
  (.cons (.ex (.mth 2 (.var 0) .nil))
  .nil)))))))
/-- Tokens.refuse(self) -/
abbrev s10 : Stmt := inClass (top 10) 1
def ir10 : Stms :=
  (.cons (.raise 2 (.cons (.att (.var 0) 0) .nil))
  .nil)
/-- Tokens.go_on(self, text) -/
abbrev s11 : Stmt := inClass (top 10) 2
def ir11 : Stms :=
  (.cons (.ex (.mth 3 (.var 0) .nil))
  (.cons (.setat (.var 0) 0 (.att (.var 0) 3))
  (.cons (.set 1 (.att (.var 0) 1))
  (.cons (.ife (.cmp .eq (.att (.var 0) 2) (.bi .len (.cons (.var 1) .nil))) (.cons (.setat (.var 0) 4 (.lit (.str [101, 110, 100])))
  (.cons (.setat (.var 0) 5 (.lit (.str [])))
  .nil)) (.cons (.ife (.cmp .in_ (.ix (.var 1) (.att (.var 0) 2)) (.lit (.str [97, 98, 99, 100, 101, 102, 103, 104, 105, 106, 107, 108, 109, 110, 111, 112, 113, 114, 115, 116, 117, 118, 119, 120, 121, 122]))) (.cons (.ex (.mth 4 (.var 0) (.cons (.bin .add (.lit (.str [97, 98, 99, 100, 101, 102, 103, 104, 105, 106, 107, 108, 109, 110, 111, 112, 113, 114, 115, 116, 117, 118, 119, 120, 121, 122])) (.lit (.str [48, 49, 50, 51, 52, 53, 54, 55, 56, 57]))) .nil)))
  (.cons (.setat (.var 0) 4 (.lit (.str [110, 97, 109, 101])))
  (.cons (.ife (.cmp .in_ (.att (.var 0) 5) (.lit (.tup [(.str [108, 101, 116]), (.str [105, 110])]))) (.cons (.setat (.var 0) 4 (.lit (.str [115, 105, 103, 110])))
  .nil) (.cons (.ife (.cmp .gt (.bi .len (.cons (.att (.var 0) 5) .nil)) (.lit (.int 12))) (.cons (.ex (.mth 1 (.var 0) .nil))
  .nil) .nil)
  .nil))
  .nil))) (.cons (.ife (.cmp .in_ (.ix (.var 1) (.att (.var 0) 2)) (.lit (.str [48, 49, 50, 51, 52, 53, 54, 55, 56, 57]))) (.cons (.ex (.mth 4 (.var 0) (.cons (.lit (.str [48, 49, 50, 51, 52, 53, 54, 55, 56, 57])) .nil)))
  (.cons (.setat (.var 0) 4 (.lit (.str [110, 117, 109, 98, 101, 114])))
  (.cons (.ife (.or (.cmp .gt (.bi .len (.cons (.att (.var 0) 5) .nil)) (.lit (.int 2))) (.or (.and (.cmp .eq (.ix (.att (.var 0) 5) (.lit (.int 0))) (.lit (.str [48]))) (.cmp .ne (.att (.var 0) 5) (.lit (.str [48])))) (.cmp .gt (.bi .int (.cons (.att (.var 0) 5) .nil)) (.lit (.int 60))))) (.cons (.ex (.mth 1 (.var 0) .nil))
  .nil) .nil)
  .nil))) (.cons (.setat (.var 0) 4 (.lit (.str [115, 105, 103, 110])))
  (.cons (.setat (.var 0) 5 (.ix (.var 1) (.att (.var 0) 2)))
  (.cons (.ife (.cmp .notin (.att (.var 0) 5) (.lit (.str [92, 46, 40, 41, 61]))) (.cons (.ex (.mth 1 (.var 0) .nil))
  .nil) .nil)
  (.cons (.augat (.var 0) 2 .add (.lit (.int 1)))
  .nil)))))
  .nil))
  .nil))
  .nil))))
/-- Tokens._skip(self, text, comment, sign) -/
abbrev s12 : Stmt := inClass (top 10) 3
def ir12 : Stms :=
  (.cons (.set 1 (.att (.var 0) 1))
  (.cons (.set 2 (.lit (.bl false)))
  (.cons (.whl (.cmp .lt (.att (.var 0) 2) (.bi .len (.cons (.var 1) .nil))) (.cons (.set 3 (.ix (.var 1) (.att (.var 0) 2)))
  (.cons (.ife (.cmp .eq (.var 3) (.lit (.str [10]))) (.cons (.set 2 (.lit (.bl false)))
  (.cons (.augat (.var 0) 3 .add (.lit (.int 1)))
  .nil)) (.cons (.ife (.cmp .eq (.var 3) (.lit (.str [35]))) (.cons (.set 2 (.lit (.bl true)))
  .nil) (.cons (.ife (.and (.cmp .ne (.var 3) (.lit (.str [32]))) (.not (.var 2))) (.cons (.ret (.lit .non))
  .nil) .nil)
  .nil))
  .nil))
  (.cons (.augat (.var 0) 2 .add (.lit (.int 1)))
  .nil))))
  .nil)))
/-- Tokens._take(self, signs, end) -/
abbrev s13 : Stmt := inClass (top 10) 4
def ir13 : Stms :=
  (.cons (.set 2 (.att (.var 0) 2))
  (.cons (.whl (.and (.cmp .lt (.var 2) (.bi .len (.cons (.att (.var 0) 1) .nil))) (.cmp .in_ (.ix (.att (.var 0) 1) (.var 2)) (.var 1))) (.cons (.aug 2 .add (.lit (.int 1)))
  .nil))
  (.cons (.setat (.var 0) 5 (.slc (.att (.var 0) 1) (.some (.att (.var 0) 2)) (.some (.var 2))))
  (.cons (.setat (.var 0) 2 (.var 2))
  .nil))))
abbrev x2 : Stmt := inClass (top 2) 0
def fld : Nat → Str
  | 0 => "line"
  | 1 => "_text"
  | 2 => "_place"
  | 3 => "_line"
  | 4 => "kind"
  | 5 => "word"
  | _ => "?"
def mn : Nat → Str
  | 0 => "__init__"
  | 1 => "refuse"
  | 2 => "go_on"
  | 3 => "_skip"
  | 4 => "_take"
  | _ => "?"
def fnn : Nat → Str
  | 0 => "tokens"
  | 1 => "_law_bag"
  | 2 => "_law_draw"
  | 3 => "_law_one"
  | 4 => "_law_gap"
  | 5 => "_law_laid"
  | 6 => "_law_word"
  | 7 => "_law_told"
  | 8 => "law"
  | _ => "?"
def cln : Nat → Str
  | 0 => "Tokens"
  | 1 => "TermError"
  | 2 => "BadText"
  | _ => "?"
def con : Nat → Option (Str × D)
  | 0 => some ("MOST_NUMBER", (.int 60))
  | 1 => some ("MOST_NAME", (.int 12))
  | 2 => some ("WORDS", (.tup [(.str [108, 101, 116]), (.str [105, 110])]))
  | 3 => some ("LOWER", (.str [97, 98, 99, 100, 101, 102, 103, 104, 105, 106, 107, 108, 109, 110, 111, 112, 113, 114, 115, 116, 117, 118, 119, 120, 121, 122]))
  | 4 => some ("DIGITS", (.str [48, 49, 50, 51, 52, 53, 54, 55, 56, 57]))
  | 5 => some ("SIGNS", (.str [92, 46, 40, 41, 61]))
  | _ => none
def irs : Nat → Option (Nat × Nat × Stms)
  | 0 => some (3, 1, ir0)
  | 1 => some (3, 2, ir1)
  | 2 => some (4, 2, ir2)
  | 3 => some (2, 2, ir3)
  | 4 => some (6, 3, ir4)
  | 5 => some (5, 2, ir5)
  | 6 => some (4, 1, ir6)
  | 7 => some (2, 1, ir7)
  | 8 => some (10, 1, ir8)
  | 9 => some (2, 2, ir9)
  | 10 => some (1, 1, ir10)
  | 11 => some (2, 1, ir11)
  | 12 => some (4, 1, ir12)
  | 13 => some (3, 2, ir13)
  | _ => none
def io : Nat → Option Nat
  | 0 => some 9
  | _ => none
def mt : Nat → Nat → Option Nat
  | 0, 0 => some 9
  | 0, 1 => some 10
  | 0, 2 => some 11
  | 0, 3 => some 12
  | 0, 4 => some 13
  | _, _ => none
def xfl : Nat → List Nat
  | 2 => [0]
  | _ => []
def xsub : Nat → Nat → Bool
  | 1, 1 => true
  | 2, 1 => true
  | 2, 2 => true
  | _, _ => false
def ni : Nat → Bool
  | _ => false
def prg : Prg := ⟨irs, io, mt, xfl, xsub, 9⟩
theorem fld_inj0 : ∀ i, i < 6 → ∀ j, j < 6 → fld i = fld j → i = j := by decide +kernel
theorem fld_inj : ∀ i j, i < 6 → j < 6 → fld i = fld j → i = j := fun i j hi hj => fld_inj0 i hi j hj
def nob : List Str := ["len", "int", "range", "max", "min"]
def mkZ (K : PySem.W.Frag) (cla fa : Nat → Addr) : Nm := { K := K, fld := fld, cla := cla, fa := fa, mn := mn, nc := 1, nx := 3, nf := 6, nfx := 1, fnn := fnn, cln := cln, nob := nob, con := con, nfn := 9, xfl := xfl, ni := ni, inj := fld_inj }
section
variable {X : Cx} {K : PySem.W.Frag} {cla fa : Nat → Addr} {n k : Nat} {W : WX}
theorem d0 {P : Program} {w : World} {mg : Str → Option Value} {base : Heap} {f : Addr} {cdv : Value} {A0 : Around} {outer : List PySem.Env} {s : Shared} {H : Hp} {E : XK} (M : Mx (cxOf (L2.CX P w) P w K mg base ["text", "found", "reader"] "tokens" (defScope s0) f cdv A0 outer s H E) (mkZ K cla fa) (lvl prg n) (k + 2) W false) (A : XA (cxOf (L2.CX P w) P w K mg base ["text", "found", "reader"] "tokens" (defScope s0) f cdv A0 outer s H E) (mkZ K cla fa) (lvl prg n)) :
    MB (cxOf (L2.CX P w) P w K mg base ["text", "found", "reader"] "tokens" (defScope s0) f cdv A0 outer s H E) (mkZ K cla fa) (lvl prg n) W (defBody s0) ir0 :=
  (mb_cons M (ms_set M 1 (me_lst M (ma_nil M)))
  (mb_cons M (ms_set M 2 (me_new M (ma_cons M (me_var M 0) (ma_nil M))))
  (mb_cons M (ms_whl M (mt_cmp M (me_att M (me_var M 2)) (me_str M)) (mb_cons M (ms_ex M (me_append M (me_var M 1) (me_tup M (ma_cons M (me_att M (me_var M 2)) (ma_cons M (me_att M (me_var M 2)) (ma_nil M))))))
  (mb_cons M (ms_ex M (me_mth0 M (me_var M 2)))
  (mb_nil M))))
  (mb_cons M (ms_ret M (me_var M 1))
  (mb_nil M)))))
theorem d1 {P : Program} {w : World} {mg : Str → Option Value} {base : Heap} {f : Addr} {cdv : Value} {A0 : Around} {outer : List PySem.Env} {s : Shared} {H : Hp} {E : XK} (M : Mx (cxOf (L2.CX P w) P w K mg base ["script", "k", "cell"] "_law_bag" (defScope s1) f cdv A0 outer s H E) (mkZ K cla fa) (lvl prg n) (k + 2) W false) (A : XA (cxOf (L2.CX P w) P w K mg base ["script", "k", "cell"] "_law_bag" (defScope s1) f cdv A0 outer s H E) (mkZ K cla fa) (lvl prg n)) :
    MB (cxOf (L2.CX P w) P w K mg base ["script", "k", "cell"] "_law_bag" (defScope s1) f cdv A0 outer s H E) (mkZ K cla fa) (lvl prg n) W (defBody s1) ir1 :=
  (mb_cons M (ms_set M 2 (me_int M))
  (mb_cons M (ms_ife M (mt_cmp M (me_var M 1) (me_bi M (ma_cons M (me_var M 0) (ma_nil M)))) (mb_cons M (ms_set M 2 (me_bi M (ma_cons M (me_ix M (me_var M 0) (me_var M 1)) (ma_nil M))))
  (mb_nil M)) (mb_nil M))
  (mb_cons M (ms_ret M (me_lst M (ma_cons M (me_int M) (ma_cons M (me_bin M (me_int M) (me_bin M (me_int M) (me_var M 1))) (ma_cons M (me_int M) (ma_cons M (me_var M 2) (ma_nil M)))))))
  (mb_nil M))))
theorem d2 {P : Program} {w : World} {mg : Str → Option Value} {base : Heap} {f : Addr} {cdv : Value} {A0 : Around} {outer : List PySem.Env} {s : Shared} {H : Hp} {E : XK} (M : Mx (cxOf (L2.CX P w) P w K mg base ["bag", "many", "rest", "seed"] "_law_draw" (defScope s2) f cdv A0 outer s H E) (mkZ K cla fa) (lvl prg n) (k + 2) W false) (A : XA (cxOf (L2.CX P w) P w K mg base ["bag", "many", "rest", "seed"] "_law_draw" (defScope s2) f cdv A0 outer s H E) (mkZ K cla fa) (lvl prg n)) :
    MB (cxOf (L2.CX P w) P w K mg base ["bag", "many", "rest", "seed"] "_law_draw" (defScope s2) f cdv A0 outer s H E) (mkZ K cla fa) (lvl prg n) W (defBody s2) ir2 :=
  (mb_cons M (ms_ife M (mt_cmp M (me_var M 1) (me_int M)) (mb_cons M (ms_ret M (me_int M))
  (mb_nil M)) (mb_nil M))
  (mb_cons M (ms_ife M (mt_cmp M (me_ix M (me_var M 0) (me_int M)) (me_int M)) (mb_cons M (ms_setix M (me_bin M (me_ix M (me_var M 0) (me_int M)) (me_int M)) (me_var M 0) (me_int M))
  (mb_cons M (ms_set M 3 (me_bin M (me_bi M (ma_cons M (me_bin M (me_bin M (me_bin M (me_bin M (me_ix M (me_var M 0) (me_int M)) (me_int M)) (me_bin M (me_ix M (me_var M 0) (me_int M)) (me_int M))) (me_bin M (me_ix M (me_var M 0) (me_int M)) (me_int M))) (me_int M)) (ma_nil M))) (me_int M)))
  (mb_cons M (ms_setix M (me_bin M (me_bin M (me_var M 3) (me_int M)) (me_bin M (me_bi M (ma_cons M (me_bin M (me_bin M (me_var M 3) (me_var M 3)) (me_ix M (me_var M 0) (me_int M))) (ma_nil M))) (me_int M))) (me_var M 0) (me_int M))
  (mb_cons M (ms_ife M (mt_w M (mw_and M (mt_cmp M (me_ix M (me_var M 0) (me_int M)) (me_int M)) (mw_and1 M (mt_cmp M (me_ix M (me_var M 0) (me_int M)) (me_bin M (me_int M) (me_int M)))))) (mb_cons M (ms_setix M (me_ix M (me_var M 0) (me_int M)) (me_var M 0) (me_int M))
  (mb_nil M)) (mb_nil M))
  (mb_cons M (ms_setix M (me_var M 3) (me_var M 0) (me_int M))
  (mb_nil M)))))) (mb_nil M))
  (mb_cons M (ms_set M 2 (me_ix M (me_var M 0) (me_int M)))
  (mb_cons M (ms_setix M (me_bin M (me_var M 2) (me_var M 1)) (me_var M 0) (me_int M))
  (mb_cons M (ms_ret M (me_bin M (me_bi M (ma_cons M (me_var M 2) (ma_nil M))) (me_var M 1)))
  (mb_nil M))))))
theorem d3 {P : Program} {w : World} {mg : Str → Option Value} {base : Heap} {f : Addr} {cdv : Value} {A0 : Around} {outer : List PySem.Env} {s : Shared} {H : Hp} {E : XK} (M : Mx (cxOf (L2.CX P w) P w K mg base ["bag", "row"] "_law_one" (defScope s3) f cdv A0 outer s H E) (mkZ K cla fa) (lvl prg n) (k + 2) W false) (A : XA (cxOf (L2.CX P w) P w K mg base ["bag", "row"] "_law_one" (defScope s3) f cdv A0 outer s H E) (mkZ K cla fa) (lvl prg n)) :
    MB (cxOf (L2.CX P w) P w K mg base ["bag", "row"] "_law_one" (defScope s3) f cdv A0 outer s H E) (mkZ K cla fa) (lvl prg n) W (defBody s3) ir3 :=
  (mb_cons M (ms_ret M (me_ix M (me_var M 1) (me_call M (ma_cons M (me_var M 0) (ma_cons M (me_bi M (ma_cons M (me_var M 1) (ma_nil M))) (ma_nil M))))))
  (mb_nil M))
theorem d4 {P : Program} {w : World} {mg : Str → Option Value} {base : Heap} {f : Addr} {cdv : Value} {A0 : Around} {outer : List PySem.Env} {s : Shared} {H : Hp} {E : XK} (M : Mx (cxOf (L2.CX P w) P w K mg base ["bag", "left", "right", "signs", "needed", "pick"] "_law_gap" (defScope s4) f cdv A0 outer s H E) (mkZ K cla fa) (lvl prg n) (k + 2) W false) (A : XA (cxOf (L2.CX P w) P w K mg base ["bag", "left", "right", "signs", "needed", "pick"] "_law_gap" (defScope s4) f cdv A0 outer s H E) (mkZ K cla fa) (lvl prg n)) :
    MB (cxOf (L2.CX P w) P w K mg base ["bag", "left", "right", "signs", "needed", "pick"] "_law_gap" (defScope s4) f cdv A0 outer s H E) (mkZ K cla fa) (lvl prg n) W (defBody s4) ir4 :=
  (mb_cons M (ms_set M 3 (me_str M))
  (mb_cons M (ms_set M 4 (me_and M (me_cmp M (me_ix M (me_var M 1) (me_neg M (me_int M))) (me_var M 3)) (me_and M (me_cmp M (me_ix M (me_var M 2) (me_int M)) (me_var M 3)) (me_one M (me_not M (me_and M (me_cmp M (me_ix M (me_var M 1) (me_int M)) (me_slc M (me_var M 3) (mo_some M (me_int M)) (mo_none M))) (me_one M (me_cmp M (me_ix M (me_var M 2) (me_int M)) (me_slc M (me_var M 3) (mo_none M) (mo_some M (me_int M)))))))))))
  (mb_cons M (ms_set M 5 (me_call M (ma_cons M (me_var M 0) (ma_cons M (me_int M) (ma_nil M)))))
  (mb_cons M (ms_ife M (mt_w M (mw_and M (mt_cmp M (me_var M 5) (me_int M)) (mw_and1 M (mt_not M (mt_of M (me_var M 4)))))) (mb_cons M (ms_ret M (me_str M))
  (mb_nil M)) (mb_nil M))
  (mb_cons M (ms_ife M (mt_cmp M (me_var M 5) (me_int M)) (mb_cons M (ms_ret M (me_ix M (me_lst M (ma_cons M (me_str M) (ma_cons M (me_str M) (ma_cons M (me_str M) (ma_cons M (me_str M) (ma_nil M)))))) (me_call M (ma_cons M (me_var M 0) (ma_cons M (me_int M) (ma_nil M))))))
  (mb_nil M)) (mb_nil M))
  (mb_cons M (ms_ret M (me_bin M (me_bin M (me_ix M (me_lst M (ma_cons M (me_str M) (ma_cons M (me_str M) (ma_cons M (me_str M) (ma_nil M))))) (me_call M (ma_cons M (me_var M 0) (ma_cons M (me_int M) (ma_nil M))))) (me_str M)) (me_ix M (me_lst M (ma_cons M (me_str M) (ma_cons M (me_str M) (ma_cons M (me_str M) (ma_cons M (me_str M) (ma_nil M)))))) (me_call M (ma_cons M (me_var M 0) (ma_cons M (me_int M) (ma_nil M)))))))
  (mb_nil M)))))))
theorem d5 {P : Program} {w : World} {mg : Str → Option Value} {base : Heap} {f : Addr} {cdv : Value} {A0 : Around} {outer : List PySem.Env} {s : Shared} {H : Hp} {E : XK} (M : Mx (cxOf (L2.CX P w) P w K mg base ["bag", "words", "text", "lines", "k"] "_law_laid" (defScope s5) f cdv A0 outer s H E) (mkZ K cla fa) (lvl prg n) (k + 2) W false) (A : XA (cxOf (L2.CX P w) P w K mg base ["bag", "words", "text", "lines", "k"] "_law_laid" (defScope s5) f cdv A0 outer s H E) (mkZ K cla fa) (lvl prg n)) :
    MB (cxOf (L2.CX P w) P w K mg base ["bag", "words", "text", "lines", "k"] "_law_laid" (defScope s5) f cdv A0 outer s H E) (mkZ K cla fa) (lvl prg n) W (defBody s5) ir5 :=
  (mb_cons M (ms_set M 2 (me_ix M (me_lst M (ma_cons M (me_str M) (ma_cons M (me_str M) (ma_cons M (me_str M) (ma_cons M (me_str M) (ma_nil M)))))) (me_call M (ma_cons M (me_var M 0) (ma_cons M (me_int M) (ma_nil M))))))
  (mb_cons M (ms_set M 3 (me_lst M (ma_nil M)))
  (mb_cons M (ms_for M (mi_rng M (me_bi M (ma_cons M (me_var M 1) (ma_nil M)))) (mg_name M 4) (mb_cons M (ms_ex M (me_append M (me_var M 3) (me_bin M (me_int M) (me_count M (me_var M 2) (me_str M)))))
  (mb_cons M (ms_set M 2 (me_bin M (me_var M 2) (me_ix M (me_var M 1) (me_var M 4))))
  (mb_cons M (ms_ife M (mt_cmp M (me_bin M (me_var M 4) (me_int M)) (me_bi M (ma_cons M (me_var M 1) (ma_nil M)))) (mb_cons M (ms_set M 2 (me_bin M (me_var M 2) (me_call M (ma_cons M (me_var M 0) (ma_cons M (me_ix M (me_var M 1) (me_var M 4)) (ma_cons M (me_ix M (me_var M 1) (me_bin M (me_var M 4) (me_int M))) (ma_nil M)))))))
  (mb_nil M)) (mb_nil M))
  (mb_nil M)))))
  (mb_cons M (ms_set M 2 (me_bin M (me_var M 2) (me_ix M (me_lst M (ma_cons M (me_str M) (ma_cons M (me_str M) (ma_cons M (me_str M) (ma_cons M (me_str M) (ma_nil M)))))) (me_call M (ma_cons M (me_var M 0) (ma_cons M (me_int M) (ma_nil M)))))))
  (mb_cons M (ms_ret M (me_tup M (ma_cons M (me_var M 2) (ma_cons M (me_bin M (me_var M 3) (me_lst M (ma_cons M (me_bin M (me_int M) (me_count M (me_var M 2) (me_str M))) (ma_nil M)))) (ma_nil M)))))
  (mb_nil M))))))
theorem d6 {P : Program} {w : World} {mg : Str → Option Value} {base : Heap} {f : Addr} {cdv : Value} {A0 : Around} {outer : List PySem.Env} {s : Shared} {H : Hp} {E : XK} (M : Mx (cxOf (L2.CX P w) P w K mg base ["bag", "pick", "word", "k"] "_law_word" (defScope s6) f cdv A0 outer s H E) (mkZ K cla fa) (lvl prg n) (k + 2) W false) (A : XA (cxOf (L2.CX P w) P w K mg base ["bag", "pick", "word", "k"] "_law_word" (defScope s6) f cdv A0 outer s H E) (mkZ K cla fa) (lvl prg n)) :
    MB (cxOf (L2.CX P w) P w K mg base ["bag", "pick", "word", "k"] "_law_word" (defScope s6) f cdv A0 outer s H E) (mkZ K cla fa) (lvl prg n) W (defBody s6) ir6 :=
  (mb_cons M (ms_set M 1 (me_call M (ma_cons M (me_var M 0) (ma_cons M (me_int M) (ma_nil M)))))
  (mb_cons M (ms_ife M (mt_cmp M (me_var M 1) (me_int M)) (mb_cons M (ms_ret M (me_call M (ma_cons M (me_var M 0) (ma_cons M (me_lst M (ma_cons M (me_str M) (ma_cons M (me_str M) (ma_cons M (me_str M) (ma_cons M (me_str M) (ma_cons M (me_str M) (ma_nil M))))))) (ma_nil M)))))
  (mb_nil M)) (mb_nil M))
  (mb_cons M (ms_ife M (mt_cmp M (me_var M 1) (me_int M)) (mb_cons M (ms_ret M (me_call M (ma_cons M (me_var M 0) (ma_cons M (me_lst M (ma_cons M (me_str M) (ma_cons M (me_str M) (ma_cons M (me_str M) (ma_cons M (me_str M) (ma_cons M (me_str M) (ma_nil M))))))) (ma_nil M)))))
  (mb_nil M)) (mb_nil M))
  (mb_cons M (ms_ife M (mt_cmp M (me_var M 1) (me_int M)) (mb_cons M (ms_ret M (me_call M (ma_cons M (me_var M 0) (ma_cons M (me_lst M (ma_cons M (me_str M) (ma_cons M (me_str M) (ma_nil M)))) (ma_nil M)))))
  (mb_nil M)) (mb_nil M))
  (mb_cons M (ms_set M 2 (me_ix M (me_str M) (me_call M (ma_cons M (me_var M 0) (ma_cons M (me_int M) (ma_nil M))))))
  (mb_cons M (ms_for M (mi_rng M (me_call M (ma_cons M (me_var M 0) (ma_cons M (me_int M) (ma_nil M))))) (mg_name M 3) (mb_cons M (ms_set M 2 (me_bin M (me_var M 2) (me_ix M (me_str M) (me_call M (ma_cons M (me_var M 0) (ma_cons M (me_int M) (ma_nil M)))))))
  (mb_nil M)))
  (mb_cons M (ms_ret M (me_var M 2))
  (mb_nil M))))))))
theorem d7 {P : Program} {w : World} {mg : Str → Option Value} {base : Heap} {f : Addr} {cdv : Value} {A0 : Around} {outer : List PySem.Env} {s : Shared} {H : Hp} {E : XK} (M : Mx (cxOf (L2.CX P w) P w K mg base ["text", "e"] "_law_told" (defScope s7) f cdv A0 outer s H E) (mkZ K cla fa) (lvl prg n) (k + 2) W false) (A : XA (cxOf (L2.CX P w) P w K mg base ["text", "e"] "_law_told" (defScope s7) f cdv A0 outer s H E) (mkZ K cla fa) (lvl prg n)) :
    MB (cxOf (L2.CX P w) P w K mg base ["text", "e"] "_law_told" (defScope s7) f cdv A0 outer s H E) (mkZ K cla fa) (lvl prg n) W (defBody s7) ir7 :=
  (mb_cons M (ms_try M (fun _ _ _ M => (mb_cons M (ms_ret M (me_call M (ma_cons M (me_var M 0) (ma_nil M))))
  (mb_nil M))) (mh_exf M A 1 (mh_nil M)))
  (mb_nil M))
theorem d8 {P : Program} {w : World} {mg : Str → Option Value} {base : Heap} {f : Addr} {cdv : Value} {A0 : Around} {outer : List PySem.Env} {s : Shared} {H : Hp} {E : XK} (M : Mx (cxOf (L2.CX P w) P w K mg base ["script", "odd", "k", "bag", "words", "bad", "due", "text", "lines", "j"] "law" (defScope s8) f cdv A0 outer s H E) (mkZ K cla fa) (lvl prg n) (k + 2) W false) (A : XA (cxOf (L2.CX P w) P w K mg base ["script", "odd", "k", "bag", "words", "bad", "due", "text", "lines", "j"] "law" (defScope s8) f cdv A0 outer s H E) (mkZ K cla fa) (lvl prg n)) :
    MB (cxOf (L2.CX P w) P w K mg base ["script", "odd", "k", "bag", "words", "bad", "due", "text", "lines", "j"] "law" (defScope s8) f cdv A0 outer s H E) (mkZ K cla fa) (lvl prg n) W (defBody s8) ir8 :=
  (mb_cons M (ms_set M 1 (me_lst M (ma_cons M (me_str M) (ma_cons M (me_bin M (me_str M) (me_int M)) (ma_cons M (me_str M) (ma_cons M (me_str M) (ma_cons M (me_str M) (ma_cons M (me_str M) (ma_cons M (me_str M) (ma_cons M (me_str M) (ma_cons M (me_str M) (ma_cons M (me_str M) (ma_cons M (me_str M) (ma_cons M (me_str M) (ma_cons M (me_str M) (ma_cons M (me_str M) (ma_cons M (me_str M) (ma_cons M (me_str M) (ma_cons M (me_str M) (ma_cons M (me_str M) (ma_nil M)))))))))))))))))))))
  (mb_cons M (ms_for M (mi_rng M (me_bi M (ma_cons M (me_int M) (ma_cons M (me_bi M (ma_cons M (me_int M) (ma_cons M (me_bi M (ma_cons M (me_var M 0) (ma_nil M))) (ma_nil M)))) (ma_nil M))))) (mg_name M 2) (mb_cons M (ms_set M 3 (me_call M (ma_cons M (me_var M 0) (ma_cons M (me_var M 2) (ma_nil M)))))
  (mb_cons M (ms_set M 4 (me_lc M [("j", 9)] (mi_rng M (me_call M (ma_cons M (me_var M 3) (ma_cons M (me_int M) (ma_nil M))))) (fun _ _ _ _ _ M => (mg_name M 9)) (fun _ _ _ _ _ M => mc_none) (fun _ _ _ _ _ M => (me_call M (ma_cons M (me_var M 3) (ma_nil M))))))
  (mb_cons M (ms_set M 5 (me_bi M (ma_cons M (me_var M 4) (ma_nil M))))
  (mb_cons M (ms_ife M (mt_cmp M (me_call M (ma_cons M (me_var M 3) (ma_cons M (me_int M) (ma_nil M)))) (me_int M)) (mb_cons M (ms_set M 5 (me_call M (ma_cons M (me_var M 3) (ma_cons M (me_bin M (me_bi M (ma_cons M (me_var M 4) (ma_nil M))) (me_int M)) (ma_nil M)))))
  (mb_cons M (ms_set M 4 (me_bin M (me_bin M (me_slc M (me_var M 4) (mo_none M) (mo_some M (me_var M 5))) (me_lst M (ma_cons M (me_ix M (me_var M 1) (me_call M (ma_cons M (me_var M 3) (ma_cons M (me_int M) (ma_nil M))))) (ma_nil M)))) (me_slc M (me_var M 4) (mo_some M (me_var M 5)) (mo_none M))))
  (mb_nil M))) (mb_nil M))
  (mb_cons M (ms_unp M (mg_tup M (mg_cons M (mg_cons M (mg_nil M)))) (me_call M (ma_cons M (me_var M 3) (ma_cons M (me_var M 4) (ma_nil M)))))
  (mb_cons M (ms_set M 6 (me_ite M (mt_cmp M (me_var M 5) (me_bi M (ma_cons M (me_var M 4) (ma_nil M)))) (me_ix M (me_var M 8) (me_var M 5)) (me_lc M [("j", 9)] (mi_rng M (me_bi M (ma_cons M (me_var M 4) (ma_nil M)))) (fun _ _ _ _ _ M => (mg_name M 9)) (fun _ _ _ _ _ M => mc_none) (fun _ _ _ _ _ M => (me_tup M (ma_cons M (me_ix M (me_var M 4) (me_var M 9)) (ma_cons M (me_ix M (me_var M 8) (me_var M 9)) (ma_nil M))))))))
  (mb_cons M (ms_ife M (mt_cmp M (me_call M (ma_cons M (me_var M 7) (ma_nil M))) (me_var M 6)) (mb_cons M (ms_ret M (me_bl M))
  (mb_nil M)) (mb_nil M))
  (mb_nil M)))))))))
  (mb_cons M (ms_ret M (me_and M (me_cmp M (me_call M (ma_cons M (me_str M) (ma_nil M))) (me_lst M (ma_nil M))) (me_and M (me_cmp M (me_call M (ma_cons M (me_str M) (ma_nil M))) (me_lst M (ma_cons M (me_tup M (ma_cons M (me_str M) (ma_cons M (me_int M) (ma_nil M)))) (ma_cons M (me_tup M (ma_cons M (me_str M) (ma_cons M (me_int M) (ma_nil M)))) (ma_nil M))))) (me_one M (me_cmp M (me_call M (ma_cons M (me_str M) (ma_nil M))) (me_lst M (ma_cons M (me_tup M (ma_cons M (me_str M) (ma_cons M (me_int M) (ma_nil M)))) (ma_nil M))))))))
  (mb_nil M))))
theorem d9 {P : Program} {w : World} {mg : Str → Option Value} {base : Heap} {f : Addr} {cdv : Value} {A0 : Around} {outer : List PySem.Env} {s : Shared} {H : Hp} {E : XK} (M : Mx (cxOf (L2.CX P w) P w K mg base ["self", "text"] "Tokens.__init__" (defScope s9) f cdv A0 outer s H E) (mkZ K cla fa) (lvl prg n) (k + 2) W false) (A : XA (cxOf (L2.CX P w) P w K mg base ["self", "text"] "Tokens.__init__" (defScope s9) f cdv A0 outer s H E) (mkZ K cla fa) (lvl prg n)) :
    MB (cxOf (L2.CX P w) P w K mg base ["self", "text"] "Tokens.__init__" (defScope s9) f cdv A0 outer s H E) (mkZ K cla fa) (lvl prg n) W (defBody s9) ir9 :=
  (mb_cons M (ms_setat M (me_var M 1) (me_var M 0))
  (mb_cons M (ms_setat M (me_int M) (me_var M 0))
  (mb_cons M (ms_setat M (me_int M) (me_var M 0))
  (mb_cons M (ms_setat M (me_str M) (me_var M 0))
  (mb_cons M (ms_setat M (me_str M) (me_var M 0))
  (mb_cons M (ms_setat M (me_int M) (me_var M 0))
  (mb_cons M (ms_ex M (me_mth0 M (me_var M 0)))
  (mb_nil M))))))))
theorem d10 {P : Program} {w : World} {mg : Str → Option Value} {base : Heap} {f : Addr} {cdv : Value} {A0 : Around} {outer : List PySem.Env} {s : Shared} {H : Hp} {E : XK} (M : Mx (cxOf (L2.CX P w) P w K mg base ["self"] "Tokens.refuse" (defScope s10) f cdv A0 outer s H E) (mkZ K cla fa) (lvl prg n) (k + 2) W false) (A : XA (cxOf (L2.CX P w) P w K mg base ["self"] "Tokens.refuse" (defScope s10) f cdv A0 outer s H E) (mkZ K cla fa) (lvl prg n)) :
    MB (cxOf (L2.CX P w) P w K mg base ["self"] "Tokens.refuse" (defScope s10) f cdv A0 outer s H E) (mkZ K cla fa) (lvl prg n) W (defBody s10) ir10 :=
  (mb_cons M (ms_r1 M A (ma_cons M (me_att M (me_var M 0)) (ma_nil M)))
  (mb_nil M))
theorem d11 {P : Program} {w : World} {mg : Str → Option Value} {base : Heap} {f : Addr} {cdv : Value} {A0 : Around} {outer : List PySem.Env} {s : Shared} {H : Hp} {E : XK} (M : Mx (cxOf (L2.CX P w) P w K mg base ["self", "text"] "Tokens.go_on" (defScope s11) f cdv A0 outer s H E) (mkZ K cla fa) (lvl prg n) (k + 2) W false) (A : XA (cxOf (L2.CX P w) P w K mg base ["self", "text"] "Tokens.go_on" (defScope s11) f cdv A0 outer s H E) (mkZ K cla fa) (lvl prg n)) :
    MB (cxOf (L2.CX P w) P w K mg base ["self", "text"] "Tokens.go_on" (defScope s11) f cdv A0 outer s H E) (mkZ K cla fa) (lvl prg n) W (defBody s11) ir11 :=
  (mb_cons M (ms_ex M (me_mth0 M (me_var M 0)))
  (mb_cons M (ms_setat M (me_att M (me_var M 0)) (me_var M 0))
  (mb_cons M (ms_set M 1 (me_att M (me_var M 0)))
  (mb_cons M (ms_ife M (mt_cmp M (me_att M (me_var M 0)) (me_bi M (ma_cons M (me_var M 1) (ma_nil M)))) (mb_cons M (ms_setat M (me_str M) (me_var M 0))
  (mb_cons M (ms_setat M (me_str M) (me_var M 0))
  (mb_nil M))) (mb_cons M (ms_ife M (mt_cmp M (me_ix M (me_var M 1) (me_att M (me_var M 0))) (me_con M 3)) (mb_cons M (ms_ex M (me_mth M (me_var M 0) (ma_cons M (me_bin M (me_con M 3) (me_con M 4)) (ma_nil M))))
  (mb_cons M (ms_setat M (me_str M) (me_var M 0))
  (mb_cons M (ms_ife M (mt_cmp M (me_att M (me_var M 0)) (me_con M 2)) (mb_cons M (ms_setat M (me_str M) (me_var M 0))
  (mb_nil M)) (mb_cons M (ms_ife M (mt_cmp M (me_bi M (ma_cons M (me_att M (me_var M 0)) (ma_nil M))) (me_con M 1)) (mb_cons M (ms_ex M (me_mth0 M (me_var M 0)))
  (mb_nil M)) (mb_nil M))
  (mb_nil M)))
  (mb_nil M)))) (mb_cons M (ms_ife M (mt_cmp M (me_ix M (me_var M 1) (me_att M (me_var M 0))) (me_con M 4)) (mb_cons M (ms_ex M (me_mth M (me_var M 0) (ma_cons M (me_con M 4) (ma_nil M))))
  (mb_cons M (ms_setat M (me_str M) (me_var M 0))
  (mb_cons M (ms_ife M (mt_w M (mw_or M (mt_cmp M (me_bi M (ma_cons M (me_att M (me_var M 0)) (ma_nil M))) (me_int M)) (mw_or M (mt_w M (mw_and M (mt_cmp M (me_ix M (me_att M (me_var M 0)) (me_int M)) (me_str M)) (mw_and1 M (mt_cmp M (me_att M (me_var M 0)) (me_str M))))) (mw_or1 M (mt_cmp M (me_bi M (ma_cons M (me_att M (me_var M 0)) (ma_nil M))) (me_con M 0)))))) (mb_cons M (ms_ex M (me_mth0 M (me_var M 0)))
  (mb_nil M)) (mb_nil M))
  (mb_nil M)))) (mb_cons M (ms_setat M (me_str M) (me_var M 0))
  (mb_cons M (ms_setat M (me_ix M (me_var M 1) (me_att M (me_var M 0))) (me_var M 0))
  (mb_cons M (ms_ife M (mt_cmp M (me_att M (me_var M 0)) (me_con M 5)) (mb_cons M (ms_ex M (me_mth0 M (me_var M 0)))
  (mb_nil M)) (mb_nil M))
  (mb_cons M (ms_augat M (me_int M) (me_var M 0))
  (mb_nil M))))))
  (mb_nil M)))
  (mb_nil M)))
  (mb_nil M)))))
theorem d12 {P : Program} {w : World} {mg : Str → Option Value} {base : Heap} {f : Addr} {cdv : Value} {A0 : Around} {outer : List PySem.Env} {s : Shared} {H : Hp} {E : XK} (M : Mx (cxOf (L2.CX P w) P w K mg base ["self", "text", "comment", "sign"] "Tokens._skip" (defScope s12) f cdv A0 outer s H E) (mkZ K cla fa) (lvl prg n) (k + 2) W false) (A : XA (cxOf (L2.CX P w) P w K mg base ["self", "text", "comment", "sign"] "Tokens._skip" (defScope s12) f cdv A0 outer s H E) (mkZ K cla fa) (lvl prg n)) :
    MB (cxOf (L2.CX P w) P w K mg base ["self", "text", "comment", "sign"] "Tokens._skip" (defScope s12) f cdv A0 outer s H E) (mkZ K cla fa) (lvl prg n) W (defBody s12) ir12 :=
  (mb_cons M (ms_set M 1 (me_att M (me_var M 0)))
  (mb_cons M (ms_set M 2 (me_bl M))
  (mb_cons M (ms_whl M (mt_cmp M (me_att M (me_var M 0)) (me_bi M (ma_cons M (me_var M 1) (ma_nil M)))) (mb_cons M (ms_set M 3 (me_ix M (me_var M 1) (me_att M (me_var M 0))))
  (mb_cons M (ms_ife M (mt_cmp M (me_var M 3) (me_str M)) (mb_cons M (ms_set M 2 (me_bl M))
  (mb_cons M (ms_augat M (me_int M) (me_var M 0))
  (mb_nil M))) (mb_cons M (ms_ife M (mt_cmp M (me_var M 3) (me_str M)) (mb_cons M (ms_set M 2 (me_bl M))
  (mb_nil M)) (mb_cons M (ms_ife M (mt_w M (mw_and M (mt_cmp M (me_var M 3) (me_str M)) (mw_and1 M (mt_not M (mt_of M (me_var M 2)))))) (mb_cons M (ms_retN M)
  (mb_nil M)) (mb_nil M))
  (mb_nil M)))
  (mb_nil M)))
  (mb_cons M (ms_augat M (me_int M) (me_var M 0))
  (mb_nil M)))))
  (mb_nil M))))
theorem d13 {P : Program} {w : World} {mg : Str → Option Value} {base : Heap} {f : Addr} {cdv : Value} {A0 : Around} {outer : List PySem.Env} {s : Shared} {H : Hp} {E : XK} (M : Mx (cxOf (L2.CX P w) P w K mg base ["self", "signs", "end"] "Tokens._take" (defScope s13) f cdv A0 outer s H E) (mkZ K cla fa) (lvl prg n) (k + 2) W false) (A : XA (cxOf (L2.CX P w) P w K mg base ["self", "signs", "end"] "Tokens._take" (defScope s13) f cdv A0 outer s H E) (mkZ K cla fa) (lvl prg n)) :
    MB (cxOf (L2.CX P w) P w K mg base ["self", "signs", "end"] "Tokens._take" (defScope s13) f cdv A0 outer s H E) (mkZ K cla fa) (lvl prg n) W (defBody s13) ir13 :=
  (mb_cons M (ms_set M 2 (me_att M (me_var M 0)))
  (mb_cons M (ms_whl M (mt_w M (mw_and M (mt_cmp M (me_var M 2) (me_bi M (ma_cons M (me_att M (me_var M 0)) (ma_nil M)))) (mw_and1 M (mt_cmp M (me_ix M (me_att M (me_var M 0)) (me_var M 2)) (me_var M 1))))) (mb_cons M (ms_aug M 2 (me_int M))
  (mb_nil M)))
  (mb_cons M (ms_setat M (me_slc M (me_att M (me_var M 0)) (mo_some M (me_att M (me_var M 0))) (mo_some M (me_var M 2))) (me_var M 0))
  (mb_cons M (ms_setat M (me_var M 2) (me_var M 0))
  (mb_nil M)))))
end
end K02
end Mini
end L2
namespace L2
namespace Mini
namespace K02
open PySem PySem.Spec PyProof.Rows
local macro_rules | `(tactic| walk_at "s") => `(tactic| first | with_reducible refine st_set ?_ | with_reducible refine st_ife ?_ | with_reducible refine st_ret ?_ | with_reducible refine st_ex ?_ | with_reducible refine st_unp ?_ | with_reducible refine st_unpl ?_ | with_reducible refine st_unpa ?_ | with_reducible refine st_aug ?_ | with_reducible refine st_for ?_ | with_reducible refine st_whl ?_ | with_reducible refine st_nil ?_ | with_reducible refine st_setix ?_ | with_reducible refine st_raise ?_ | with_reducible refine st_try ?_ | with_reducible refine st_setat ?_ | with_reducible refine st_augat ?_ | with_reducible refine st_pass ?_ | with_reducible refine st_brk ?_ | with_reducible refine st_cnt ?_)
local macro_rules | `(tactic| walk_at "e") => `(tactic| try simp only [fget, fput, eq_self, Nat.reduceEqDiff, and_true, Int.reduceBEq, wpC, goW, List.map_cons, List.map_nil, deq, deqs, List.any_cons, List.any_nil, slW, cut_1, Int.cast_ofNat_Int, Int.natCast_zero, Int.natCast_one, Int.reduceLE, Int.reduceLT, Int.reduceNeg, Int.reduceAdd, Int.reduceSub, decide_true, decide_false, inW_chr, List.contains_cons, List.contains_nil, Bool.or_true, Bool.true_or, Bool.or_false, Bool.false_or, gd, gds, List.all_cons, List.all_nil, Nat.reduceLT, List.zip_cons_cons, List.zip_nil_left, List.foldl_cons, List.foldl_nil, wpT, wpE, wpEs, wpO, wpI, env0, Env.get, List.map, List.length, List.replicate, List.getElem?_cons_zero, List.getElem?_cons_succ, List.nil_append, List.cons_append, List.append_nil, tru, isiW, cmpW, List.set, Nat.reduceSub, Nat.reduceAdd, Bool.not_true, Bool.not_false, Bool.false_eq_true, if_true, if_false, reduceIte, ixW, biW, bmTy, augW, tgW, newW, wpPs, dmerge, sqW_t, sqW_s, binW_ai, binW_si, binW_at, binW_as, binW_mi, binW_di, binW_mo, atI_0, atI_1, atI_2, ex_some, eqW_str, eqW_int, sz0, sz1, sz2, sz3, sz4, sz5, sz6, sz7, sz8, sz9, sz10, sz11, sz12, sz13, sz14, true_and, Bool.false_xor, Bool.true_xor, lb_cc, lb_nc, lb_cn, lb_nn, Nat.reduceBEq, Bool.and_true, Bool.true_and, Bool.false_and, Bool.and_false, beq_self_eq_true, binW_ms])
local macro_rules | `(tactic| walk_at "r") => `(tactic| ((try walk_at "s"); walk_at "e"; repeat (walk_at "s"; walk_at "e")))
local macro_rules | `(tactic| walk_at "w") => `(tactic| simp only [wpSs, wpS, wpT, wpE, wpEs, wpO, wpI, env0, Env.get, List.map, List.length, List.replicate, List.getElem?_cons_zero, List.getElem?_cons_succ, List.nil_append, List.cons_append, List.append_nil, tru, isiW, cmpW, List.set, Nat.reduceSub, Nat.reduceAdd, Bool.not_true, Bool.not_false, Bool.false_eq_true, if_true, if_false, reduceIte, ixW, biW, bmTy, sqW_t, sqW_s, binW_ai, binW_si, binW_at, binW_as, binW_mi, binW_di, binW_mo, atI_0, atI_1, atI_2, ex_some, eqW_str, eqW_int, sz0, sz1, sz2, sz3, sz4, sz5, sz6, sz7, sz11, true_and, Bool.false_xor, Bool.true_xor, lb_cc, lb_nc, lb_cn, lb_nn, Nat.reduceBEq, Bool.and_true, Bool.true_and, Bool.false_and, Bool.and_false, beq_self_eq_true])
local macro_rules | `(tactic| walk_at "q") => `(tactic| refine eqW_of rfl rfl (Nat.le_of_ble_eq_true rfl) ?_)
local macro_rules | `(tactic| walk_at "g") => `(tactic| (walk_at "r"; repeat (walk_at "q"; walk_at "r")))
/-! ### the bag, drawn from -/
structure Bg (b : Addr) (S : Sto) : Prop where
  h : ∃ r s c v : Int, S b = some (.lst [.int r, .int s, .int c, .int v])
theorem Bg.new {b p : Addr} {S : Sto} {x : Cell} (h : Bg b S) (hp : S p = none) : Bg b (S.upd p x) := by
  obtain ⟨r, s, c, v, e⟩ := h
  exact ⟨r, s, c, v, by rw [Sto.upd_ne (new_ne e hp)]; exact e⟩
theorem Bg.sx {b : Addr} {S S' : Sto} (h : Bg b S) (x : Sx S S') : Bg b S' := by
  obtain ⟨r, s, c, v, e⟩ := h
  exact ⟨r, s, c, v, x _ _ e⟩
theorem Bg.ne {b p : Addr} {S : Sto} (h : Bg b S) (hp : S p = none) : p ≠ b := by
  obtain ⟨r, s, c, v, e⟩ := h
  exact (new_ne e hp).symm
abbrev tail_fd : Stms := .cons (.set 2 (.ix (.var 0) (.lit (.int 0)))) (.cons (.setix (.var 0) (.lit (.int 0)) (.bin .fdiv (.var 2) (.var 1))) (.cons (.ret (.bin .mod (.bi .int (.cons (.var 2) .nil)) (.var 1))) .nil))
theorem tail_fd_ok {b : Addr} {m n : Nat} {S : Sto} {o : Option D} {K : En} {X : EX} (h0 : 0 < m) (hm : m < 1000000) (h : Bg b S) (q : ∀ (i : Int) S', Bg b S' → Sxb b S S' → K.rt (.int (i.fmod (m : Int))) S') : wpSs (lvl prg n) tail_fd K X [some (.ref b), some (.int m), none, o] S := by
  obtain ⟨r, s, c, v, e⟩ := h
  walk_at "s"; walk_at "e"
  simp only [e]
  walk_at "e"
  walk_at "s"; walk_at "e"
  refine ⟨by omega, by omega, ?_⟩
  unfold setixW
  simp only [e]
  refine ⟨0, rfl, ?_⟩
  walk_at "s"; walk_at "e"
  exact ⟨by omega, q r _ ⟨_, s, c, v, Sto.upd_same⟩ fun a d h1 hd => by rw [Sto.upd_ne h1]; exact hd⟩
theorem w_fdraw {b : Addr} {m : Nat} {n : Nat} {S : Sto} {Q : QD} {E : QX} (h : Bg b S) (h0 : 0 < m) (hm : m < 1000000) (q : ∀ (r : Nat) S', r < m → Bg b S' → Sxb b S S' → Q (.int r) S') : (lvl prg (n + 1)).fn 2 [.ref b, .int m] S Q E := by
  have fin : ∀ (i : Int) S', Bg b S' → Sxb b S S' → Q (.int (i.fmod (m : Int))) S' := fun i S' h x => by
    obtain ⟨h1, h2⟩ := fmod_lt (i := i) (m := (m : Int)) (by omega)
    have e : i.fmod (m : Int) = (((i.fmod (m : Int)).toNat : Nat) : Int) := by omega
    rw [e]
    exact q _ S' (by omega) h x
  have hb := h
  obtain ⟨r, s, c, v, e⟩ := h
  refine ⟨rfl, ?_⟩
  have tl : ∀ G K X σ S', wpSs G ir2 K X σ S' = wpSs G (.cons (match ir2 with | .cons s _ => s | .nil => .pass) (.cons (match ir2 with | .cons _ (.cons s _) => s | _ => .pass) tail_fd)) K X σ S' := fun _ _ _ _ _ => rfl
  rw [tl]
  dsimp only [ir2]
  walk_at "s"; walk_at "e"
  rw [decide_eq_false (show ¬ (m : Int) < 1 by omega)]
  walk_at "e"
  walk_at "s"
  walk_at "s"; walk_at "e"
  simp only [e]
  walk_at "e"
  by_cases hr : r = 0
  · subst hr
    walk_at "e"
    walk_at "s"; walk_at "e"
    simp only [e]
    walk_at "e"
    unfold setixW
    simp only [e]
    refine ⟨2, rfl, ?_⟩
    walk_at "s"; walk_at "e"
    simp only [Sto.upd_same]
    walk_at "e"
    refine ⟨.inr (by unfold smallI; omega), ?_⟩
    simp only [Sto.upd_same]
    refine ⟨_, rfl, ?_⟩
    walk_at "e"
    refine ⟨.inr (by unfold smallI; omega), ?_⟩
    simp only [Sto.upd_same]
    walk_at "e"
    refine ⟨.inr (by unfold smallI; omega), ?_⟩
    walk_at "e"
    refine ⟨by decide, ?_⟩
    generalize hg : (s * 48271 + v * 69621 + (c + 1) * 16807 + 11).fmod 2147483647 = seed
    have hs1 : 0 ≤ seed ∧ seed < 2147483647 := by rw [← hg]; exact fmod_lt (by omega)
    walk_at "s"; walk_at "e"
    refine ⟨.inr (by unfold smallI; omega), ?_⟩
    refine ⟨.inl (by unfold smallI; omega), ?_⟩
    simp only [Sto.upd_same]
    refine ⟨_, rfl, ?_⟩
    walk_at "e"
    refine ⟨by decide, ?_⟩
    generalize hg2 : seed * 2147483629 + (seed * seed + v).fmod 2147483629 = r1
    unfold setixW
    simp only [Sto.upd_same]
    refine ⟨0, rfl, ?_⟩
    have last : ∀ (S6 : Sto) (r2 : Int), S6 b = some (.lst [.int r2, .int s, .int (c + 1), .int v]) → Sxb b S S6 → wpSs (lvl prg n) (.cons (.setix (.var 0) (.lit (.int 1)) (.var 3)) .nil) { nx := fun σ' S' => wpSs (lvl prg n) tail_fd { nx := fun _ S' => Q .non S', rt := Q } (fun x _ S1 => E x S1) σ' S', rt := Q } (fun x _ S' => E x S') [some (.ref b), some (.int m), none, some (.int seed)] S6 := fun S6 r2 e6 x6 => by
      walk_at "s"; walk_at "e"
      unfold setixW
      simp only [e6]
      refine ⟨1, rfl, ?_⟩
      walk_at "s"
      exact tail_fd_ok h0 hm ⟨_, _, _, _, Sto.upd_same⟩ fun i S7 h7 x7 => fin i S7 h7 fun a d h1 hd => x7 a d h1 (by rw [Sto.upd_ne h1]; exact x6 a d h1 hd)
    have x5 : Sxb b S ((S.upd b (.lst [.int 0, .int s, .int (c + 1), .int v])).upd b (.lst ([.int 0, .int s, .int (c + 1), .int v].set 0 (.int r1)))) := Sxb.put.trans Sxb.put
    have e5 : ((S.upd b (.lst [.int 0, .int s, .int (c + 1), .int v])).upd b (.lst ([.int 0, .int s, .int (c + 1), .int v].set 0 (.int r1)))) b = some (.lst [.int r1, .int s, .int (c + 1), .int v]) := Sto.upd_same
    generalize (S.upd b (.lst [.int 0, .int s, .int (c + 1), .int v])).upd b (.lst ([.int 0, .int s, .int (c + 1), .int v].set 0 (.int r1))) = S5 at x5 e5 ⊢
    walk_at "s"; walk_at "e"
    simp only [e5]
    walk_at "e"
    by_cases hc : c + 1 = 1
    · rw [show (c + 1 == 1) = true from beq_iff_eq.mpr hc]
      walk_at "e"
      simp only [e5]
      refine ⟨_, rfl, ?_⟩
      refine ⟨by decide, by decide, by decide, ?_⟩
      walk_at "e"
      by_cases hv : (10 ^ Int.toNat 18 : Int) ≤ v
      · rw [decide_eq_true hv]
        walk_at "e"
        walk_at "s"; walk_at "e"
        simp only [e5]
        refine ⟨_, rfl, ?_⟩
        unfold setixW
        simp only [e5]
        refine ⟨0, rfl, ?_⟩
        walk_at "s"
        exact last _ v Sto.upd_same (x5.trans Sxb.put)
      · rw [decide_eq_false hv]
        walk_at "e"
        walk_at "s"
        exact last _ r1 e5 x5
    · rw [show (c + 1 == 1) = false from beq_eq_false_iff_ne.mpr hc]
      walk_at "e"
      walk_at "s"
      exact last _ r1 e5 x5
  · rw [show (r == 0) = false from beq_eq_false_iff_ne.mpr hr]
    walk_at "e"
    walk_at "s"
    exact tail_fd_ok h0 hm hb fin
theorem lvl_xfl (n : Nat) : (lvl prg n).xfl = xfl := by cases n <;> rfl
theorem lvl_xsub (n : Nat) : (lvl prg n).xsub = xsub := by cases n <;> rfl
theorem lvl_nfn (n : Nat) : (lvl prg n).nfn = 9 := by cases n <;> rfl
abbrev dropS2 : Nat → Stms → Stms
  | 0, s => s
  | k + 1, .cons _ r => dropS2 k r
  | _ + 1, .nil => .nil
end K02
end Mini
end L2
namespace L2
namespace Mini
namespace K02
open PySem PySem.Spec PyProof.Rows
local macro_rules | `(tactic| walk_at "s") => `(tactic| first | with_reducible refine st_set ?_ | with_reducible refine st_ife ?_ | with_reducible refine st_ret ?_ | with_reducible refine st_ex ?_ | with_reducible refine st_unp ?_ | with_reducible refine st_unpl ?_ | with_reducible refine st_unpa ?_ | with_reducible refine st_aug ?_ | with_reducible refine st_for ?_ | with_reducible refine st_whl ?_ | with_reducible refine st_nil ?_ | with_reducible refine st_setix ?_ | with_reducible refine st_raise ?_ | with_reducible refine st_try ?_ | with_reducible refine st_setat ?_ | with_reducible refine st_augat ?_ | with_reducible refine st_pass ?_ | with_reducible refine st_brk ?_ | with_reducible refine st_cnt ?_)
local macro_rules | `(tactic| walk_at "e") => `(tactic| try simp only [fget, fput, eq_self, Nat.reduceEqDiff, and_true, Int.reduceBEq, wpC, goW, List.map_cons, List.map_nil, deq, deqs, List.any_cons, List.any_nil, slW, cut_1, Int.cast_ofNat_Int, Int.natCast_zero, Int.natCast_one, Int.reduceLE, Int.reduceLT, Int.reduceNeg, Int.reduceAdd, Int.reduceSub, decide_true, decide_false, inW_chr, List.contains_cons, List.contains_nil, Bool.or_true, Bool.true_or, Bool.or_false, Bool.false_or, gd, gds, List.all_cons, List.all_nil, Nat.reduceLT, List.zip_cons_cons, List.zip_nil_left, List.foldl_cons, List.foldl_nil, wpT, wpE, wpEs, wpO, wpI, env0, Env.get, List.map, List.length, List.replicate, List.getElem?_cons_zero, List.getElem?_cons_succ, List.nil_append, List.cons_append, List.append_nil, tru, isiW, cmpW, List.set, Nat.reduceSub, Nat.reduceAdd, Bool.not_true, Bool.not_false, Bool.false_eq_true, if_true, if_false, reduceIte, ixW, biW, bmTy, augW, tgW, newW, wpPs, dmerge, sqW_t, sqW_s, binW_ai, binW_si, binW_at, binW_as, binW_mi, binW_di, binW_mo, atI_0, atI_1, atI_2, ex_some, eqW_str, eqW_int, sz0, sz1, sz2, sz3, sz4, sz5, sz6, sz7, sz8, sz9, sz10, sz11, sz12, sz13, sz14, true_and, Bool.false_xor, Bool.true_xor, lb_cc, lb_nc, lb_cn, lb_nn, Nat.reduceBEq, Bool.and_true, Bool.true_and, Bool.false_and, Bool.and_false, beq_self_eq_true, binW_ms])
local macro_rules | `(tactic| walk_at "r") => `(tactic| ((try walk_at "s"); walk_at "e"; repeat (walk_at "s"; walk_at "e")))
local macro_rules | `(tactic| walk_at "w") => `(tactic| simp only [wpSs, wpS, wpT, wpE, wpEs, wpO, wpI, env0, Env.get, List.map, List.length, List.replicate, List.getElem?_cons_zero, List.getElem?_cons_succ, List.nil_append, List.cons_append, List.append_nil, tru, isiW, cmpW, List.set, Nat.reduceSub, Nat.reduceAdd, Bool.not_true, Bool.not_false, Bool.false_eq_true, if_true, if_false, reduceIte, ixW, biW, bmTy, sqW_t, sqW_s, binW_ai, binW_si, binW_at, binW_as, binW_mi, binW_di, binW_mo, atI_0, atI_1, atI_2, ex_some, eqW_str, eqW_int, sz0, sz1, sz2, sz3, sz4, sz5, sz6, sz7, sz11, true_and, Bool.false_xor, Bool.true_xor, lb_cc, lb_nc, lb_cn, lb_nn, Nat.reduceBEq, Bool.and_true, Bool.true_and, Bool.false_and, Bool.and_false, beq_self_eq_true])
local macro_rules | `(tactic| walk_at "q") => `(tactic| refine eqW_of rfl rfl (Nat.le_of_ble_eq_true rfl) ?_)
local macro_rules | `(tactic| walk_at "g") => `(tactic| (walk_at "r"; repeat (walk_at "q"; walk_at "r")))
/-! ### texts, plainly -/
/-- past spaces, newlines, comments: how many newlines, what is left -/
def sk : Bool → List Nat → Nat × List Nat
  | _, [] => (0, [])
  | c, a :: r => if a = 10 then ((sk false r).1 + 1, (sk false r).2) else if a = 35 then sk true r else if a ≠ 32 ∧ c = false then (0, a :: r) else sk c r
def aln (c : Nat) : Bool := low c || dig c
def wordB (w : List Nat) : Bool := w == [108, 101, 116] || w == [105, 110]
def val (w : List Nat) : Nat := w.foldl (fun a c => a * 10 + (c - 48)) 0
def numB (w : List Nat) : Bool := decide (w.length ≤ 2) && (!(w.headD 0 == 48) || w == [48]) && decide (val w ≤ 60)
def sgn : List Nat := [92, 46, 40, 41, 61]
/-- the next token and what is behind it; none: it is none -/
def nw : List Nat → Option (List Nat × List Nat)
  | [] => none
  | a :: r => if low a = true then (if (wordB (a :: r.takeWhile aln) || decide ((a :: r.takeWhile aln).length ≤ 12)) = true then some (a :: r.takeWhile aln, r.dropWhile aln) else none)
    else if dig a = true then (if numB (a :: r.takeWhile dig) = true then some (a :: r.takeWhile dig, r.dropWhile dig) else none)
    else if sgn.contains a = true then some ([a], r) else none
def cnt (l : List Nat) : Nat := (l.filter (· == 10)).length
theorem cnt_app (a b : List Nat) : cnt (a ++ b) = cnt a + cnt b := by simp [cnt]
/-- a gap: it is passed, whatever comes behind it -/
def Gp (g : List Nat) : Prop := ∀ s, sk false (g ++ s) = (cnt g + (sk false s).1, (sk false s).2)
theorem Gp.nil : Gp [] := fun s => by simp [cnt]
theorem Gp.cons10 {g : List Nat} (h : Gp g) : Gp (10 :: g) := fun s => by
  have := h s
  simp only [List.cons_append, sk, if_true, this, cnt, List.filter, beq_self_eq_true, List.length_cons]
  refine Prod.ext ?_ rfl
  dsimp only
  omega
theorem Gp.cons32 {g : List Nat} (h : Gp g) : Gp (32 :: g) := fun s => by
  have := h s
  simp only [List.cons_append, sk, cnt] at *
  simpa using this
/-- a comment -/
def Cm (g : List Nat) : Prop := ∀ s, sk true (g ++ s) = (cnt g + (sk false s).1, (sk false s).2)
theorem Gp.of_cm {g : List Nat} (h : Cm g) : Gp (35 :: g) := fun s => by
  have := h s
  simp only [List.cons_append, sk, cnt] at *
  simpa using this
theorem Cm.end_ {g : List Nat} (h : Gp g) : Cm (10 :: g) := fun s => by
  have := h s
  simp only [List.cons_append, sk, if_true, this, cnt, List.filter, beq_self_eq_true, List.length_cons]
  refine Prod.ext ?_ rfl
  dsimp only
  omega
theorem Cm.cons {a : Nat} {g : List Nat} (h : Cm g) (n : a ≠ 10) : Cm (a :: g) := fun s => by
  have := h s
  have n' : (a == 10) = false := beq_eq_false_iff_ne.mpr n
  simp only [List.cons_append, sk, cnt, if_neg n, List.filter, n'] at *
  split
  · exact this
  · rw [if_neg (by simp)]; exact this
/-- what a word begins with -/
def solid (a : Nat) : Bool := decide (a ≠ 10) && decide (a ≠ 35) && decide (a ≠ 32)
theorem sk_solid {a : Nat} {r : List Nat} (h : solid a = true) : sk false (a :: r) = (0, a :: r) := by
  simp only [solid, Bool.and_eq_true, decide_eq_true_eq] at h
  simp only [sk, if_neg h.1.1, if_neg h.1.2]
  rw [if_pos ⟨h.2, trivial⟩]
/-! words that are right, words that are none -/
inductive Vw : List Nat → Prop
  | sign {c : Nat} : sgn.contains c = true → Vw [c]
  | num {w : List Nat} : w ∈ [[48], [55], [49, 48], [53, 57], [54, 48]] → Vw w
  | name {a : Nat} {r : List Nat} : low a = true → r.all aln = true → r.length ≤ 11 → Vw (a :: r)
def Bw (w : List Nat) : Prop := ∃ a r, w = a :: r ∧ solid a = true ∧ ∀ s, nw (w ++ s) = none
/-- what may come behind a word -/
def sep (w s : List Nat) : Prop := match w, s with
  | a :: _, c :: _ => (low a = true → aln c = false) ∧ (dig a = true → dig c = false)
  | _, _ => True
theorem takeWhile_all {p : Nat → Bool} : ∀ {r : List Nat}, r.all p = true → ∀ s : List Nat, (match s with | c :: _ => p c = false | [] => True) → (r ++ s).takeWhile p = r ∧ (r ++ s).dropWhile p = s
  | [], _, s, h => by
    cases s with
    | nil => exact ⟨rfl, rfl⟩
    | cons c s => simp only [List.nil_append, List.takeWhile, List.dropWhile, h]; exact ⟨trivial, trivial⟩
  | a :: r, h, s, hs => by
    simp only [List.all_cons, Bool.and_eq_true] at h
    obtain ⟨h1, h2⟩ := takeWhile_all h.2 s hs
    simp only [List.cons_append, List.takeWhile, List.dropWhile, h.1, h1, h2]
    exact ⟨trivial, trivial⟩
theorem sgn_of {c : Nat} (h : sgn.contains c = true) : low c = false ∧ dig c = false ∧ solid c = true := by
  simp only [sgn, List.contains_cons, List.contains_nil, Bool.or_false, Bool.or_eq_true, beq_iff_eq] at h
  rcases h with rfl | rfl | rfl | rfl | rfl <;> decide
theorem low_solid {a : Nat} (h : low a = true) : solid a = true ∧ dig a = false := by
  simp only [low, Bool.and_eq_true, decide_eq_true_eq] at h
  simp only [solid, dig, Bool.and_eq_true, decide_eq_true_eq, Bool.and_eq_false_iff, decide_eq_false_iff_not]
  omega
theorem Vw.head {w : List Nat} (h : Vw w) : ∃ a r, w = a :: r ∧ solid a = true := by
  cases h with
  | @sign c h => exact ⟨c, [], rfl, (sgn_of h).2.2⟩
  | num h =>
    simp only [List.mem_cons, List.not_mem_nil, or_false] at h
    rcases h with rfl | rfl | rfl | rfl | rfl <;> exact ⟨_, _, rfl, by decide⟩
  | name h _ _ => exact ⟨_, _, rfl, (low_solid h).1⟩
theorem Vw.nw {w s : List Nat} (h : Vw w) (hs : sep w s) : Mini.K02.nw (w ++ s) = some (w, s) := by
  cases h with
  | @sign c h =>
    obtain ⟨h1, h2, _⟩ := sgn_of h
    simp only [List.cons_append, List.nil_append, Mini.K02.nw, h1, h2, h, if_true, Bool.false_eq_true, if_false]
  | num h =>
    have go : ∀ (a : Nat) (r : List Nat), dig a = true → low a = false → r.all dig = true → numB (a :: r) = true → sep (a :: r) s → Mini.K02.nw (a :: r ++ s) = some (a :: r, s) := fun a r h1 h2 h3 h4 h5 => by
      obtain ⟨e1, e2⟩ := takeWhile_all h3 s (by cases s with | nil => trivial | cons c s => exact h5.2 h1)
      simp only [List.cons_append, Mini.K02.nw, h1, h2, e1, e2, h4, if_true, Bool.false_eq_true, if_false]
    simp only [List.mem_cons, List.not_mem_nil, or_false] at h
    rcases h with rfl | rfl | rfl | rfl | rfl <;> exact go _ _ (by decide) (by decide) (by decide) (by decide) hs
  | @name a r h1 h2 h3 =>
    obtain ⟨e1, e2⟩ := takeWhile_all h2 s (by cases s with | nil => trivial | cons c s => exact hs.1 h1)
    have h4 : decide ((a :: r).length ≤ 12) = true := decide_eq_true (by simp only [List.length_cons]; omega)
    simp only [List.cons_append, Mini.K02.nw, h1, e1, e2, h4, Bool.or_true, if_true]
end K02
end Mini
end L2
namespace L2
namespace Mini
namespace K02
open PySem PySem.Spec PyProof.Rows
local macro_rules | `(tactic| walk_at "s") => `(tactic| first | with_reducible refine st_set ?_ | with_reducible refine st_ife ?_ | with_reducible refine st_ret ?_ | with_reducible refine st_ex ?_ | with_reducible refine st_unp ?_ | with_reducible refine st_unpl ?_ | with_reducible refine st_unpa ?_ | with_reducible refine st_aug ?_ | with_reducible refine st_for ?_ | with_reducible refine st_whl ?_ | with_reducible refine st_nil ?_ | with_reducible refine st_setix ?_ | with_reducible refine st_raise ?_ | with_reducible refine st_try ?_ | with_reducible refine st_setat ?_ | with_reducible refine st_augat ?_ | with_reducible refine st_pass ?_ | with_reducible refine st_brk ?_ | with_reducible refine st_cnt ?_)
local macro_rules | `(tactic| walk_at "e") => `(tactic| try simp only [fget, fput, eq_self, Nat.reduceEqDiff, and_true, Int.reduceBEq, wpC, goW, List.map_cons, List.map_nil, deq, deqs, List.any_cons, List.any_nil, slW, cut_1, Int.cast_ofNat_Int, Int.natCast_zero, Int.natCast_one, Int.reduceLE, Int.reduceLT, Int.reduceNeg, Int.reduceAdd, Int.reduceSub, decide_true, decide_false, inW_chr, List.contains_cons, List.contains_nil, Bool.or_true, Bool.true_or, Bool.or_false, Bool.false_or, gd, gds, List.all_cons, List.all_nil, Nat.reduceLT, List.zip_cons_cons, List.zip_nil_left, List.foldl_cons, List.foldl_nil, wpT, wpE, wpEs, wpO, wpI, env0, Env.get, List.map, List.length, List.replicate, List.getElem?_cons_zero, List.getElem?_cons_succ, List.nil_append, List.cons_append, List.append_nil, tru, isiW, cmpW, List.set, Nat.reduceSub, Nat.reduceAdd, Bool.not_true, Bool.not_false, Bool.false_eq_true, if_true, if_false, reduceIte, ixW, biW, bmTy, augW, tgW, newW, wpPs, dmerge, sqW_t, sqW_s, binW_ai, binW_si, binW_at, binW_as, binW_mi, binW_di, binW_mo, atI_0, atI_1, atI_2, ex_some, eqW_str, eqW_int, sz0, sz1, sz2, sz3, sz4, sz5, sz6, sz7, sz8, sz9, sz10, sz11, sz12, sz13, sz14, true_and, Bool.false_xor, Bool.true_xor, lb_cc, lb_nc, lb_cn, lb_nn, Nat.reduceBEq, Bool.and_true, Bool.true_and, Bool.false_and, Bool.and_false, beq_self_eq_true, binW_ms])
local macro_rules | `(tactic| walk_at "r") => `(tactic| ((try walk_at "s"); walk_at "e"; repeat (walk_at "s"; walk_at "e")))
local macro_rules | `(tactic| walk_at "w") => `(tactic| simp only [wpSs, wpS, wpT, wpE, wpEs, wpO, wpI, env0, Env.get, List.map, List.length, List.replicate, List.getElem?_cons_zero, List.getElem?_cons_succ, List.nil_append, List.cons_append, List.append_nil, tru, isiW, cmpW, List.set, Nat.reduceSub, Nat.reduceAdd, Bool.not_true, Bool.not_false, Bool.false_eq_true, if_true, if_false, reduceIte, ixW, biW, bmTy, sqW_t, sqW_s, binW_ai, binW_si, binW_at, binW_as, binW_mi, binW_di, binW_mo, atI_0, atI_1, atI_2, ex_some, eqW_str, eqW_int, sz0, sz1, sz2, sz3, sz4, sz5, sz6, sz7, sz11, true_and, Bool.false_xor, Bool.true_xor, lb_cc, lb_nc, lb_cn, lb_nn, Nat.reduceBEq, Bool.and_true, Bool.true_and, Bool.false_and, Bool.and_false, beq_self_eq_true])
local macro_rules | `(tactic| walk_at "q") => `(tactic| refine eqW_of rfl rfl (Nat.le_of_ble_eq_true rfl) ?_)
local macro_rules | `(tactic| walk_at "g") => `(tactic| (walk_at "r"; repeat (walk_at "q"; walk_at "r")))
/-! ### the reader -/
/-- an object of the reader -/
def tkO (x : List Nat) (p ln : Nat) (kd w : List Nat) (l : Int) : Cell := .ins 0 [(1, .str x), (2, .int (p : Int)), (3, .int (ln : Int)), (4, .str kd), (5, .str w), (0, .int l)]
theorem drop_cons {x : List Nat} {p : Nat} (h : p < x.length) : x.drop p = x[p] :: x.drop (p + 1) := List.drop_eq_getElem_cons h
def whBody : Stms → Stms
  | .cons (.whl _ b) _ => b
  | .cons _ r => whBody r
  | .nil => .nil
theorem w_skip {o : Addr} {x : List Nat} {p ln : Nat} {kd w : List Nat} {l : Int} {n : Nat} {S : Sto} {Q : QD} {E : QX} (h : S o = some (tkO x p ln kd w l)) (hp : p ≤ x.length) (hx : x.length ≤ 100000)
    (q : ∀ S', Sxb o S S' → S' o = some (tkO x (x.length - (sk false (x.drop p)).2.length) (ln + (sk false (x.drop p)).1) kd w l) → Q .non S') : (lvl prg (n + 1)).fn 12 [.ref o] S Q E := by
  refine ⟨rfl, ?_⟩
  unfold ir12
  have h' := h
  unfold tkO at h'
  walk_at "s"; walk_at "e"
  simp only [h']
  walk_at "e"
  walk_at "s"; walk_at "e"
  walk_at "s"
  refine ⟨fun m σ S1 => ∃ (p1 n1 : Nat) (c : Bool) (o3 : Option D), σ = [some (.ref o), some (.str x), some (.bl c), o3] ∧ S1 o = some (tkO x p1 (ln + n1) kd w l) ∧ Sxb o S S1 ∧ p1 ≤ x.length ∧ m = x.length - p1 ∧ sk false (x.drop p) = (n1 + (sk c (x.drop p1)).1, (sk c (x.drop p1)).2), ⟨_, p, 0, false, none, rfl, h, Sxb.refl o S, hp, rfl, by simp⟩, ?_⟩
  rintro m σ S1 ⟨p1, n1, c, o3, rfl, h1, x1, hp1, rfl, e⟩
  have h1' := h1
  unfold tkO at h1'
  walk_at "e"
  simp only [h1']
  walk_at "e"
  refine ⟨of_eq_true (sz_le (by omega)), ?_⟩
  by_cases hlt : p1 < x.length
  · rw [decide_eq_true (show ((p1 : Int) < (x.length : Int)) by omega)]
    walk_at "e"
    have ed := drop_cons hlt
    walk_at "s"; walk_at "e"
    simp only [h1']
    walk_at "e"
    refine ⟨of_eq_true (sz_le (by omega)), x[p1], by rw [atI_nat, List.getElem?_eq_getElem hlt], ?_⟩
    rw [ed] at e
    obtain ⟨a, ha⟩ : ∃ a, a = x[p1] := ⟨_, rfl⟩
    rw [← ha] at e ⊢
    have next : ∀ (n2 : Nat) (c2 : Bool) (S2 : Sto) (o3 : Option D), S2 o = some (tkO x p1 (ln + n2) kd w l) → Sxb o S S2 → sk false (x.drop p) = (n2 + (sk c2 (x.drop (p1 + 1))).1, (sk c2 (x.drop (p1 + 1))).2) →
        wpSs (lvl prg n) (.cons (.augat (.var 0) 2 .add (.lit (.int 1))) .nil) { nx := fun σ' S' => ∃ m', m' < x.length - p1 ∧ ∃ (p1 n1 : Nat) (c : Bool) (o3 : Option D), σ' = [some (.ref o), some (.str x), some (.bl c), o3] ∧ S' o = some (tkO x p1 (ln + n1) kd w l) ∧ Sxb o S S' ∧ p1 ≤ x.length ∧ m' = x.length - p1 ∧ sk false (x.drop p) = (n1 + (sk c (x.drop p1)).1, (sk c (x.drop p1)).2), rt := Q } (fun x _ S' => E x S') [some (.ref o), some (.str x), some (.bl c2), o3] S2 := fun n2 c2 S2 o3 h2 x2 e2 => by
      have h2' := h2
      unfold tkO at h2'
      walk_at "s"; walk_at "e"
      simp only [h2']
      walk_at "e"
      rw [show ((p1 : Int) + 1) = ((p1 + 1 : Nat) : Int) by omega]
      exact ⟨x.length - (p1 + 1), by omega, p1 + 1, n2, c2, o3, rfl, Sto.upd_same, x2.trans Sxb.put, by omega, rfl, e2⟩
    walk_at "s"; walk_at "e"
    by_cases h10 : a = 10
    · rw [show (a == 10) = true from by rw [h10]; rfl]
      walk_at "e"
      walk_at "s"; walk_at "e"
      walk_at "s"; walk_at "e"
      simp only [h1']
      walk_at "e"
      rw [show (((ln + n1 : Nat) : Int) + 1) = ((ln + (n1 + 1) : Nat) : Int) by omega]
      walk_at "s"
      refine next (n1 + 1) false _ _ Sto.upd_same (x1.trans Sxb.put) ?_
      rw [e]
      simp only [sk, if_pos h10]
      refine Prod.ext ?_ rfl
      dsimp only
      omega
    · rw [show (a == 10) = false from by simp [h10]]
      walk_at "e"
      walk_at "s"; walk_at "e"
      by_cases h35 : a = 35
      · rw [show (a == 35) = true from by rw [h35]; rfl]
        walk_at "e"
        walk_at "s"; walk_at "e"
        refine next n1 true _ _ h1 x1 ?_
        rw [e]
        simp only [sk, if_neg h10, if_pos h35]
      · rw [show (a == 35) = false from by simp [h35]]
        walk_at "e"
        walk_at "s"; walk_at "e"
        by_cases h32 : a ≠ 32 ∧ c = false
        · rw [show (a == 32) = false from by simp [h32.1]]
          rw [h32.2]
          walk_at "r"
          have e2 : sk false (x.drop p) = (n1, a :: x.drop (p1 + 1)) := by
            rw [e]
            simp only [sk, if_neg h10, if_neg h35, if_pos h32, Nat.add_zero]
          rw [e2] at q
          refine q S1 x1 ?_
          rw [h1]
          simp only [List.length_cons, List.length_drop]
          rw [show x.length - (x.length - (p1 + 1) + 1) = p1 by omega]
        · have e2 : sk false (x.drop p) = (n1 + (sk c (x.drop (p1 + 1))).1, (sk c (x.drop (p1 + 1))).2) := by
            rw [e]
            simp only [sk, if_neg h10, if_neg h35, if_neg h32]
          have fin := next n1 c S1 (some (.str [a])) h1 x1 e2
          by_cases ha32 : a = 32
          · rw [show (a == 32) = true from by simp [ha32]]
            walk_at "e"
            walk_at "s"
            exact fin
          · rw [show (a == 32) = false from by simp [ha32]]
            have : c = true := by
              cases c with
              | true => rfl
              | false => exact absurd ⟨ha32, rfl⟩ h32
            subst this
            walk_at "e"
            walk_at "s"
            exact fin
  · rw [decide_eq_false (show ¬ ((p1 : Int) < (x.length : Int)) by omega)]
    have hpe : p1 = x.length := by omega
    have e2 : sk false (x.drop p) = (n1, []) := by
      rw [e, hpe, List.drop_length]
      simp [sk]
    rw [e2] at q
    walk_at "r"
    refine q S1 x1 ?_
    rw [h1, hpe]
    rfl
end K02
end Mini
end L2
namespace L2
namespace Mini
namespace K02
open PySem PySem.Spec PyProof.Rows
local macro_rules | `(tactic| walk_at "s") => `(tactic| first | with_reducible refine st_set ?_ | with_reducible refine st_ife ?_ | with_reducible refine st_ret ?_ | with_reducible refine st_ex ?_ | with_reducible refine st_unp ?_ | with_reducible refine st_unpl ?_ | with_reducible refine st_unpa ?_ | with_reducible refine st_aug ?_ | with_reducible refine st_for ?_ | with_reducible refine st_whl ?_ | with_reducible refine st_nil ?_ | with_reducible refine st_setix ?_ | with_reducible refine st_raise ?_ | with_reducible refine st_try ?_ | with_reducible refine st_setat ?_ | with_reducible refine st_augat ?_ | with_reducible refine st_pass ?_ | with_reducible refine st_brk ?_ | with_reducible refine st_cnt ?_)
local macro_rules | `(tactic| walk_at "e") => `(tactic| try simp only [fget, fput, eq_self, Nat.reduceEqDiff, and_true, Int.reduceBEq, wpC, goW, List.map_cons, List.map_nil, deq, deqs, List.any_cons, List.any_nil, slW, cut_1, Int.cast_ofNat_Int, Int.natCast_zero, Int.natCast_one, Int.reduceLE, Int.reduceLT, Int.reduceNeg, Int.reduceAdd, Int.reduceSub, decide_true, decide_false, inW_chr, List.contains_cons, List.contains_nil, Bool.or_true, Bool.true_or, Bool.or_false, Bool.false_or, gd, gds, List.all_cons, List.all_nil, Nat.reduceLT, List.zip_cons_cons, List.zip_nil_left, List.foldl_cons, List.foldl_nil, wpT, wpE, wpEs, wpO, wpI, env0, Env.get, List.map, List.length, List.replicate, List.getElem?_cons_zero, List.getElem?_cons_succ, List.nil_append, List.cons_append, List.append_nil, tru, isiW, cmpW, List.set, Nat.reduceSub, Nat.reduceAdd, Bool.not_true, Bool.not_false, Bool.false_eq_true, if_true, if_false, reduceIte, ixW, biW, bmTy, augW, tgW, newW, wpPs, dmerge, sqW_t, sqW_s, binW_ai, binW_si, binW_at, binW_as, binW_mi, binW_di, binW_mo, atI_0, atI_1, atI_2, ex_some, eqW_str, eqW_int, sz0, sz1, sz2, sz3, sz4, sz5, sz6, sz7, sz8, sz9, sz10, sz11, sz12, sz13, sz14, true_and, Bool.false_xor, Bool.true_xor, lb_cc, lb_nc, lb_cn, lb_nn, Nat.reduceBEq, Bool.and_true, Bool.true_and, Bool.false_and, Bool.and_false, beq_self_eq_true, binW_ms])
local macro_rules | `(tactic| walk_at "r") => `(tactic| ((try walk_at "s"); walk_at "e"; repeat (walk_at "s"; walk_at "e")))
local macro_rules | `(tactic| walk_at "w") => `(tactic| simp only [wpSs, wpS, wpT, wpE, wpEs, wpO, wpI, env0, Env.get, List.map, List.length, List.replicate, List.getElem?_cons_zero, List.getElem?_cons_succ, List.nil_append, List.cons_append, List.append_nil, tru, isiW, cmpW, List.set, Nat.reduceSub, Nat.reduceAdd, Bool.not_true, Bool.not_false, Bool.false_eq_true, if_true, if_false, reduceIte, ixW, biW, bmTy, sqW_t, sqW_s, binW_ai, binW_si, binW_at, binW_as, binW_mi, binW_di, binW_mo, atI_0, atI_1, atI_2, ex_some, eqW_str, eqW_int, sz0, sz1, sz2, sz3, sz4, sz5, sz6, sz7, sz11, true_and, Bool.false_xor, Bool.true_xor, lb_cc, lb_nc, lb_cn, lb_nn, Nat.reduceBEq, Bool.and_true, Bool.true_and, Bool.false_and, Bool.and_false, beq_self_eq_true])
local macro_rules | `(tactic| walk_at "q") => `(tactic| refine eqW_of rfl rfl (Nat.le_of_ble_eq_true rfl) ?_)
local macro_rules | `(tactic| walk_at "g") => `(tactic| (walk_at "r"; repeat (walk_at "q"; walk_at "r")))
theorem low_or (a : Nat) : (a == 97 || (a == 98 || (a == 99 || (a == 100 || (a == 101 || (a == 102 || (a == 103 || (a == 104 || (a == 105 || (a == 106 || (a == 107 || (a == 108 || (a == 109 || (a == 110 || (a == 111 || (a == 112 || (a == 113 || (a == 114 || (a == 115 || (a == 116 || (a == 117 || (a == 118 || (a == 119 || (a == 120 || (a == 121 || a == 122))))))))))))))))))))))))) = low a := by
  rw [Bool.eq_iff_iff]
  simp only [low, Bool.or_eq_true, beq_iff_eq, Bool.and_eq_true, decide_eq_true_eq]
  omega
theorem dig_or (a : Nat) : (a == 48 || (a == 49 || (a == 50 || (a == 51 || (a == 52 || (a == 53 || (a == 54 || (a == 55 || (a == 56 || a == 57))))))))) = dig a := by
  rw [Bool.eq_iff_iff]
  simp only [dig, Bool.or_eq_true, beq_iff_eq, Bool.and_eq_true, decide_eq_true_eq]
  omega
abbrev lowL : List Nat := [97, 98, 99, 100, 101, 102, 103, 104, 105, 106, 107, 108, 109, 110, 111, 112, 113, 114, 115, 116, 117, 118, 119, 120, 121, 122]
abbrev digL : List Nat := [48, 49, 50, 51, 52, 53, 54, 55, 56, 57]
theorem lowL_c (c : Nat) : lowL.contains c = low c := by
  simp only [lowL, List.contains_cons, List.contains_nil, Bool.or_false]
  exact low_or c
theorem digL_c (c : Nat) : digL.contains c = dig c := by
  simp only [digL, List.contains_cons, List.contains_nil, Bool.or_false]
  exact dig_or c
theorem alnL_c (c : Nat) : (lowL ++ digL).contains c = aln c := by
  rw [aln, ← lowL_c, ← digL_c, Bool.eq_iff_iff]
  simp only [List.contains_eq_mem, List.mem_append, Bool.or_eq_true, decide_eq_true_eq]
/-- _take -/
theorem w_take {o : Addr} {x sg : List Nat} {p ln : Nat} {kd w : List Nat} {l : Int} {n : Nat} {S : Sto} {Q : QD} {E : QX} {pr : Nat → Bool} (hs : ∀ c, sg.contains c = pr c) (h : S o = some (tkO x p ln kd w l)) (hp : p ≤ x.length) (hx : x.length ≤ 100000)
    (q : ∀ S', Sxb o S S' → S' o = some (tkO x (p + ((x.drop p).takeWhile pr).length) ln kd ((x.drop p).takeWhile pr) l) → Q .non S') : (lvl prg (n + 1)).fn 13 [.ref o, .str sg] S Q E := by
  have h' := h
  unfold tkO at h'
  refine ⟨rfl, ?_⟩
  unfold ir13
  walk_at "s"; walk_at "e"
  simp only [h']
  walk_at "e"
  walk_at "s"
  refine ⟨fun m σ S1 => ∃ k : Nat, σ = [some (.ref o), some (.str sg), some (.int ((p + k : Nat) : Int))] ∧ S1 = S ∧ p + k ≤ x.length ∧ m = x.length - (p + k) ∧ (x.drop p).takeWhile pr = (x.drop p).take k ++ (x.drop (p + k)).takeWhile pr, ⟨_, 0, rfl, rfl, hp, rfl, by simp⟩, ?_⟩
  rintro m σ S1 ⟨k, rfl, rfl, hk, rfl, e⟩
  walk_at "e"
  simp only [h']
  walk_at "e"
  refine ⟨of_eq_true (sz_le (by omega)), ?_⟩
  have fin : (x.drop (p + k)).takeWhile pr = [] → wpSs (lvl prg n) (match ir13 with | .cons _ (.cons _ r) => r | _ => .nil) { nx := fun _ S' => Q .non S', rt := Q } (fun x _ S' => E x S') [some (.ref o), some (.str sg), some (.int ((p + k : Nat) : Int))] S1 := fun e0 => by
    have e1 : (x.drop p).takeWhile pr = (x.drop p).take k := by rw [e, e0, List.append_nil]
    have e2 : ((x.drop p).takeWhile pr).length = k := by rw [e1, List.length_take, List.length_drop]; omega
    dsimp only [ir13]
    walk_at "s"; walk_at "e"
    simp only [h']
    walk_at "e"
    refine ⟨of_eq_true (sz_le (by omega)), ?_⟩
    rw [cut_mid, List.drop_take, show p + k - p = k by omega, ← e1]
    walk_at "s"; walk_at "e"
    simp only [Sto.upd_same]
    walk_at "e"
    walk_at "s"
    rw [e2] at q
    exact q _ (Sxb.put.trans Sxb.put) Sto.upd_same
  by_cases hlt : p + k < x.length
  · rw [decide_eq_true (show (((p + k : Nat) : Int) < (x.length : Int)) by omega)]
    have ed := drop_cons hlt
    walk_at "e"
    refine ⟨of_eq_true (sz_le (by omega)), x[p + k], by rw [atI_nat, List.getElem?_eq_getElem hlt], ?_⟩
    rw [hs]
    cases hpr : pr x[p + k] with
    | true =>
      walk_at "e"
      walk_at "s"; walk_at "e"
      walk_at "s"
      refine ⟨x.length - (p + (k + 1)), by omega, k + 1, by rw [show (((p + k : Nat) : Int) + 1) = ((p + (k + 1) : Nat) : Int) by omega], rfl, by omega, rfl, ?_⟩
      rw [e, ed, List.takeWhile_cons, hpr]
      simp only [if_true]
      have : (x.drop p).take (k + 1) = (x.drop p).take k ++ [x[p + k]] := by
        rw [List.take_add_one, List.getElem?_drop, List.getElem?_eq_getElem hlt]
        rfl
      rw [this, List.append_assoc]
      rfl
    | false =>
      walk_at "e"
      exact fin (by rw [ed, List.takeWhile_cons, hpr]; rfl)
  · rw [decide_eq_false (show ¬ (((p + k : Nat) : Int) < (x.length : Int)) by omega)]
    walk_at "e"
    exact fin (by rw [show p + k = x.length by omega, List.drop_length]; rfl)
/-! suffixes -/
theorem sk_suf : ∀ (l : List Nat) (c : Bool), (sk c l).2 <:+ l
  | [], c => by simp [sk]
  | a :: r, c => by
    unfold sk
    split
    · exact (sk_suf r false).trans (List.suffix_cons a r)
    · split
      · exact (sk_suf r true).trans (List.suffix_cons a r)
      · split
        · exact List.suffix_refl _
        · exact (sk_suf r c).trans (List.suffix_cons a r)
theorem nw_suf {r w s : List Nat} (h : nw r = some (w, s)) : ∃ a t, r = a :: t ∧ s <:+ t ∧ r = w ++ s := by
  cases r with
  | nil => cases h
  | cons a t =>
    refine ⟨a, t, rfl, ?_⟩
    simp only [nw] at h
    split at h
    · split at h
      · cases h; exact ⟨List.dropWhile_suffix _, by rw [List.cons_append, List.takeWhile_append_dropWhile]⟩
      · cases h
    · split at h
      · split at h
        · cases h; exact ⟨List.dropWhile_suffix _, by rw [List.cons_append, List.takeWhile_append_dropWhile]⟩
        · cases h
      · split at h
        · cases h; exact ⟨List.suffix_refl _, rfl⟩
        · cases h
theorem suf_drop {a b : List Nat} (h : a <:+ b) : b.drop (b.length - a.length) = a := (List.suffix_iff_eq_drop.mp h).symm
/-! numbers -/
theorem int1 : ∀ a, a < 10 → PySem.intText? (st [48 + a]) = some ((val [48 + a] : Nat) : Int) := by decide +kernel
theorem int2 : ∀ a, a < 10 → ∀ b, b < 10 → PySem.intText? (st [48 + a, 48 + b]) = some ((val [48 + a, 48 + b] : Nat) : Int) := by decide +kernel
theorem dig_eq {a : Nat} (h : dig a = true) : ∃ d, d < 10 ∧ a = 48 + d := by
  simp only [dig, Bool.and_eq_true, decide_eq_true_eq] at h
  exact ⟨a - 48, by omega, by omega⟩
theorem int_of {w : List Nat} (h1 : 1 ≤ w.length) (h2 : w.length ≤ 2) (hd : w.all dig = true) : PySem.intText? (st w) = some ((val w : Nat) : Int) := by
  rcases w with _ | ⟨a, _ | ⟨b, _ | ⟨c, w⟩⟩⟩
  · simp at h1
  · simp only [List.all_cons, List.all_nil, Bool.and_true] at hd
    obtain ⟨d, h, rfl⟩ := dig_eq hd
    exact int1 d h
  · simp only [List.all_cons, List.all_nil, Bool.and_true, Bool.and_eq_true] at hd
    obtain ⟨d, h, rfl⟩ := dig_eq hd.1
    obtain ⟨e, g, rfl⟩ := dig_eq hd.2
    exact int2 d h e g
  · simp only [List.length_cons] at h2; omega
end K02
end Mini
end L2
namespace L2
namespace Mini
namespace K02
open PySem PySem.Spec PyProof.Rows
local macro_rules | `(tactic| walk_at "s") => `(tactic| first | with_reducible refine st_set ?_ | with_reducible refine st_ife ?_ | with_reducible refine st_ret ?_ | with_reducible refine st_ex ?_ | with_reducible refine st_unp ?_ | with_reducible refine st_unpl ?_ | with_reducible refine st_unpa ?_ | with_reducible refine st_aug ?_ | with_reducible refine st_for ?_ | with_reducible refine st_whl ?_ | with_reducible refine st_nil ?_ | with_reducible refine st_setix ?_ | with_reducible refine st_raise ?_ | with_reducible refine st_try ?_ | with_reducible refine st_setat ?_ | with_reducible refine st_augat ?_ | with_reducible refine st_pass ?_ | with_reducible refine st_brk ?_ | with_reducible refine st_cnt ?_)
local macro_rules | `(tactic| walk_at "e") => `(tactic| try simp only [fget, fput, eq_self, Nat.reduceEqDiff, and_true, Int.reduceBEq, wpC, goW, List.map_cons, List.map_nil, deq, deqs, List.any_cons, List.any_nil, slW, cut_1, Int.cast_ofNat_Int, Int.natCast_zero, Int.natCast_one, Int.reduceLE, Int.reduceLT, Int.reduceNeg, Int.reduceAdd, Int.reduceSub, decide_true, decide_false, inW_chr, List.contains_cons, List.contains_nil, Bool.or_true, Bool.true_or, Bool.or_false, Bool.false_or, gd, gds, List.all_cons, List.all_nil, Nat.reduceLT, List.zip_cons_cons, List.zip_nil_left, List.foldl_cons, List.foldl_nil, wpT, wpE, wpEs, wpO, wpI, env0, Env.get, List.map, List.length, List.replicate, List.getElem?_cons_zero, List.getElem?_cons_succ, List.nil_append, List.cons_append, List.append_nil, tru, isiW, cmpW, List.set, Nat.reduceSub, Nat.reduceAdd, Bool.not_true, Bool.not_false, Bool.false_eq_true, if_true, if_false, reduceIte, ixW, biW, bmTy, augW, tgW, newW, wpPs, dmerge, sqW_t, sqW_s, binW_ai, binW_si, binW_at, binW_as, binW_mi, binW_di, binW_mo, atI_0, atI_1, atI_2, ex_some, eqW_str, eqW_int, sz0, sz1, sz2, sz3, sz4, sz5, sz6, sz7, sz8, sz9, sz10, sz11, sz12, sz13, sz14, true_and, Bool.false_xor, Bool.true_xor, lb_cc, lb_nc, lb_cn, lb_nn, Nat.reduceBEq, Bool.and_true, Bool.true_and, Bool.false_and, Bool.and_false, beq_self_eq_true, binW_ms])
local macro_rules | `(tactic| walk_at "r") => `(tactic| ((try walk_at "s"); walk_at "e"; repeat (walk_at "s"; walk_at "e")))
local macro_rules | `(tactic| walk_at "w") => `(tactic| simp only [wpSs, wpS, wpT, wpE, wpEs, wpO, wpI, env0, Env.get, List.map, List.length, List.replicate, List.getElem?_cons_zero, List.getElem?_cons_succ, List.nil_append, List.cons_append, List.append_nil, tru, isiW, cmpW, List.set, Nat.reduceSub, Nat.reduceAdd, Bool.not_true, Bool.not_false, Bool.false_eq_true, if_true, if_false, reduceIte, ixW, biW, bmTy, sqW_t, sqW_s, binW_ai, binW_si, binW_at, binW_as, binW_mi, binW_di, binW_mo, atI_0, atI_1, atI_2, ex_some, eqW_str, eqW_int, sz0, sz1, sz2, sz3, sz4, sz5, sz6, sz7, sz11, true_and, Bool.false_xor, Bool.true_xor, lb_cc, lb_nc, lb_cn, lb_nn, Nat.reduceBEq, Bool.and_true, Bool.true_and, Bool.false_and, Bool.and_false, beq_self_eq_true])
local macro_rules | `(tactic| walk_at "q") => `(tactic| refine eqW_of rfl rfl (Nat.le_of_ble_eq_true rfl) ?_)
local macro_rules | `(tactic| walk_at "g") => `(tactic| (walk_at "r"; repeat (walk_at "q"; walk_at "r")))
/-! ### go_on -/
abbrev sEnd : List Nat := [101, 110, 100]
theorem w_refuse {o : Addr} {x : List Nat} {p ln : Nat} {kd w : List Nat} {l : Int} {n : Nat} {S : Sto} {Q : QD} {E : QX} (h : S o = some (tkO x p ln kd w l)) (e : E ⟨2, [(0, .int l)]⟩ S) : (lvl prg (n + 1)).fn 10 [.ref o] S Q E := by
  have h' := h
  unfold tkO at h'
  refine ⟨rfl, ?_⟩
  unfold ir10
  walk_at "s"; walk_at "e"
  simp only [h']
  walk_at "e"
  rw [lvl_xfl]
  exact ⟨rfl, e⟩
theorem nw_low {a : Nat} {t : List Nat} (h : low a = true) : nw (a :: t) = if (wordB (a :: t.takeWhile aln) || decide ((a :: t.takeWhile aln).length ≤ 12)) = true then some (a :: t.takeWhile aln, t.dropWhile aln) else none := by simp only [nw, h, if_true]
theorem nw_dig {a : Nat} {t : List Nat} (h : low a = false) (g : dig a = true) : nw (a :: t) = if numB (a :: t.takeWhile dig) = true then some (a :: t.takeWhile dig, t.dropWhile dig) else none := by simp only [nw, h, g, if_true, Bool.false_eq_true, if_false]
theorem nw_els {a : Nat} {t : List Nat} (h : low a = false) (g : dig a = false) : nw (a :: t) = if sgn.contains a = true then some ([a], t) else none := by simp only [nw, h, g, Bool.false_eq_true, if_false]
theorem tw_len (pr : Nat → Bool) (t : List Nat) : (t.takeWhile pr).length + (t.dropWhile pr).length = t.length := by
  have := congrArg List.length (List.takeWhile_append_dropWhile (p := pr) (l := t))
  rw [List.length_append] at this
  exact this
theorem tw_all (pr : Nat → Bool) : ∀ t : List Nat, (t.takeWhile pr).all pr = true
  | [] => rfl
  | a :: t => by
    rw [List.takeWhile_cons]
    cases h : pr a with
    | true => simp only [if_true, List.all_cons, h, tw_all pr t, Bool.and_true]
    | false => simp
theorem aln_lt {c : Nat} (h : aln c = true) : c < 0x110000 := by
  simp only [aln, low, dig, Bool.or_eq_true, Bool.and_eq_true, decide_eq_true_eq] at h
  omega
theorem w_goon {o : Addr} {x : List Nat} {p ln : Nat} {kd w : List Nat} {l : Int} {n : Nat} {S : Sto} {Q : QD} {E : QX} (h : S o = some (tkO x p ln kd w l)) (hp : p ≤ x.length) (hx : x.length ≤ 100000)
    (qe : (sk false (x.drop p)).2 = [] → ∀ S', Sxb o S S' → S' o = some (tkO x x.length (ln + (sk false (x.drop p)).1) sEnd [] ((ln + (sk false (x.drop p)).1 : Nat) : Int)) → Q .non S')
    (qt : ∀ wd s kd', nw (sk false (x.drop p)).2 = some (wd, s) → (kd' == sEnd) = false → ∀ S', Sxb o S S' → S' o = some (tkO x (x.length - s.length) (ln + (sk false (x.drop p)).1) kd' wd ((ln + (sk false (x.drop p)).1 : Nat) : Int)) → Q .non S')
    (qb : (sk false (x.drop p)).2 ≠ [] → nw (sk false (x.drop p)).2 = none → ∀ S', Sxb o S S' → E ⟨2, [(0, .int ((ln + (sk false (x.drop p)).1 : Nat) : Int))]⟩ S') : (lvl prg (n + 2)).fn 11 [.ref o] S Q E := by
  have h' := h
  unfold tkO at h'
  refine ⟨rfl, ?_⟩
  unfold ir11
  walk_at "s"; walk_at "e"
  simp only [h', lvl_mt]
  walk_at "e"
  show (lvl prg (n + 1)).fn 12 [.ref o] S _ _
  refine w_skip h hp hx fun S1 x1 h1 => ?_
  have sf := (sk_suf (x.drop p) false).trans (List.drop_suffix p x)
  generalize (sk false (x.drop p)).1 = nl at qe qt qb h1
  generalize (sk false (x.drop p)).2 = r at qe qt qb h1 sf
  have er := suf_drop sf
  have hrl := sf.length_le
  obtain ⟨P, hP⟩ : ∃ P, P = x.length - r.length := ⟨_, rfl⟩
  rw [← hP] at h1 er
  obtain ⟨N, hN⟩ : ∃ N, N = ln + nl := ⟨_, rfl⟩
  rw [← hN] at qe qt qb h1
  have h1' := h1
  unfold tkO at h1'
  walk_at "s"; walk_at "e"
  simp only [h1']
  walk_at "e"
  walk_at "s"; walk_at "e"
  simp only [Sto.upd_same]
  walk_at "e"
  obtain ⟨S2, hS2⟩ : ∃ S2, S2 = S1.upd o (.ins 0 [(1, .str x), (2, .int (P : Int)), (3, .int (N : Int)), (4, .str kd), (5, .str w), (0, .int (N : Int))]) := ⟨_, rfl⟩
  have h2 : S2 o = some (tkO x P N kd w (N : Int)) := by rw [hS2, Sto.upd_same]; rfl
  have x2 : Sxb o S S2 := by rw [hS2]; exact x1.trans Sxb.put
  rw [← hS2]
  clear hS2
  have h2' := h2
  unfold tkO at h2'
  walk_at "s"; walk_at "e"
  simp only [h2']
  walk_at "e"
  refine ⟨of_eq_true (sz_le (by omega)), ?_⟩
  cases r with
  | nil =>
    have : P = x.length := by simp only [List.length_nil] at hP; omega
    subst this
    rw [show ((x.length : Int) == (x.length : Int)) = true from beq_self_eq_true _]
    walk_at "e"
    walk_at "s"; walk_at "e"
    simp only [h2']
    walk_at "e"
    walk_at "s"; walk_at "e"
    simp only [Sto.upd_same]
    walk_at "e"
    walk_at "s"
    exact qe rfl _ ((x2.trans Sxb.put).trans Sxb.put) Sto.upd_same
  | cons a t =>
    simp only [List.length_cons] at hP hrl
    have hlt : P < x.length := by omega
    rw [show ((P : Int) == (x.length : Int)) = false from beq_eq_false_iff_ne.mpr (by omega)]
    have ha : x[P]? = some a := by
      have := congrArg (fun l : List Nat => l[0]?) er
      simpa [List.getElem?_drop] using this
    walk_at "e"
    walk_at "s"; walk_at "e"
    simp only [h2']
    walk_at "e"
    refine ⟨of_eq_true (sz_le (by omega)), a, by rw [atI_nat]; exact ha, ?_⟩
    rw [low_or a]
    cases hlow : low a with
    | true =>
      walk_at "e"
      walk_at "s"; walk_at "e"
      simp only [h2', lvl_mt]
      walk_at "e"
      refine ⟨of_eq_true (sz_le (by decide)), ?_⟩
      show (lvl prg (n + 1)).fn 13 [.ref o, .str (lowL ++ digL)] S2 _ _
      refine w_take (pr := aln) alnL_c h2 (by omega) hx fun S3 x3 h3 => ?_
      have ea : aln a = true := by rw [aln, hlow]; rfl
      rw [er, List.takeWhile_cons, ea] at h3
      simp only [if_true] at h3
      obtain ⟨W, hW⟩ : ∃ W, W = a :: t.takeWhile aln := ⟨_, rfl⟩
      have hn := nw_low (t := t) hlow
      rw [← hW] at h3 hn
      have hWl : W.length + (t.dropWhile aln).length = t.length + 1 := by
        have := tw_len aln t
        rw [hW]; simp only [List.length_cons]; omega
      have hWa : W.all aln = true := by rw [hW, List.all_cons, ea, tw_all, Bool.and_true]
      have hWg : gd (.str W) = true := by
        simp only [gd]
        rw [List.all_eq_true] at hWa ⊢
        exact fun c hc => decide_eq_true (aln_lt (hWa c hc))
      rw [show P + W.length = x.length - (t.dropWhile aln).length by omega] at h3
      have h3' := h3
      unfold tkO at h3'
      walk_at "s"; walk_at "e"
      simp only [h3']
      walk_at "e"
      obtain ⟨S4, hS4⟩ : ∃ S4, S4 = S3.upd o (.ins 0 [(1, .str x), (2, .int ((x.length - (t.dropWhile aln).length : Nat) : Int)), (3, .int (N : Int)), (4, .str [110, 97, 109, 101]), (5, .str W), (0, .int (N : Int))]) := ⟨_, rfl⟩
      have h4 : S4 o = some (tkO x (x.length - (t.dropWhile aln).length) N [110, 97, 109, 101] W (N : Int)) := by rw [hS4, Sto.upd_same]; rfl
      have x4 : Sxb o S S4 := by rw [hS4]; exact (x2.trans x3).trans Sxb.put
      rw [← hS4]
      clear hS4
      have h4' := h4
      unfold tkO at h4'
      walk_at "s"; walk_at "e"
      simp only [h4']
      walk_at "e"
      refine inW_tup hWg rfl (by simp [dd]) ?_
      walk_at "e"
      have hwb : ([108, 101, 116] == W || [105, 110] == W) = wordB W := by
        rw [wordB, show ([108, 101, 116] == W) = (W == [108, 101, 116]) from BEq.comm, show ([105, 110] == W) = (W == [105, 110]) from BEq.comm]
      rw [hwb]
      cases hb : wordB W with
      | true =>
        rw [hb, Bool.true_or, if_pos rfl] at hn
        walk_at "e"
        walk_at "s"; walk_at "e"
        simp only [h4']
        walk_at "e"
        walk_at "s"; walk_at "s"
        exact qt W _ _ hn rfl _ (x4.trans Sxb.put) Sto.upd_same
      | false =>
        rw [hb, Bool.false_or] at hn
        walk_at "e"
        walk_at "s"; walk_at "e"
        simp only [h4']
        walk_at "e"
        refine ⟨of_eq_true (sz_le (by omega)), ?_⟩
        by_cases h12 : W.length ≤ 12
        · rw [decide_eq_false (show ¬ ((12 : Int) < (W.length : Int)) by omega)]
          rw [decide_eq_true h12, if_pos rfl] at hn
          walk_at "e"
          repeat walk_at "s"
          exact qt W _ _ hn rfl _ x4 h4
        · rw [decide_eq_true (show ((12 : Int) < (W.length : Int)) by omega)]
          rw [decide_eq_false h12, if_neg (by decide)] at hn
          walk_at "e"
          walk_at "s"; walk_at "e"
          simp only [h4', lvl_mt]
          walk_at "e"
          show (lvl prg (n + 1)).fn 10 [.ref o] S4 _ _
          exact w_refuse h4 (qb (by simp) hn S4 x4)
    | false =>
      walk_at "e"
      walk_at "s"; walk_at "e"
      simp only [h2']
      walk_at "e"
      refine ⟨of_eq_true (sz_le (by omega)), a, by rw [atI_nat]; exact ha, ?_⟩
      rw [dig_or a]
      cases hdig : dig a with
      | true =>
        walk_at "e"
        walk_at "s"; walk_at "e"
        simp only [h2', lvl_mt]
        walk_at "e"
        show (lvl prg (n + 1)).fn 13 [.ref o, .str digL] S2 _ _
        refine w_take (pr := dig) digL_c h2 (by omega) hx fun S3 x3 h3 => ?_
        rw [er, List.takeWhile_cons, hdig] at h3
        simp only [if_true] at h3
        obtain ⟨W, hW⟩ : ∃ W, W = a :: t.takeWhile dig := ⟨_, rfl⟩
        have hn := nw_dig (t := t) hlow hdig
        rw [← hW] at h3 hn
        have hWl : W.length + (t.dropWhile dig).length = t.length + 1 := by
          have := tw_len dig t
          rw [hW]; simp only [List.length_cons]; omega
        have hW1 : 1 ≤ W.length := by rw [hW]; simp only [List.length_cons]; omega
        have hWa : W.all dig = true := by rw [hW, List.all_cons, hdig, tw_all, Bool.and_true]
        have hWg : gd (.str W) = true := by
          simp only [gd]
          rw [List.all_eq_true] at hWa ⊢
          exact fun c hc => decide_eq_true (aln_lt (by rw [aln, hWa c hc, Bool.or_true]))
        rw [show P + W.length = x.length - (t.dropWhile dig).length by omega] at h3
        have h3' := h3
        unfold tkO at h3'
        walk_at "s"; walk_at "e"
        simp only [h3']
        walk_at "e"
        obtain ⟨S4, hS4⟩ : ∃ S4, S4 = S3.upd o (.ins 0 [(1, .str x), (2, .int ((x.length - (t.dropWhile dig).length : Nat) : Int)), (3, .int (N : Int)), (4, .str [110, 117, 109, 98, 101, 114]), (5, .str W), (0, .int (N : Int))]) := ⟨_, rfl⟩
        have h4 : S4 o = some (tkO x (x.length - (t.dropWhile dig).length) N [110, 117, 109, 98, 101, 114] W (N : Int)) := by rw [hS4, Sto.upd_same]; rfl
        have x4 : Sxb o S S4 := by rw [hS4]; exact (x2.trans x3).trans Sxb.put
        rw [← hS4]
        clear hS4
        have h4' := h4
        unfold tkO at h4'
        -- what the test comes to
        have bad : numB W = false → ∀ (K : En), wpSs (lvl prg (n + 1)) (.cons (.ex (.mth 1 (.var 0) .nil)) .nil) K (fun x _ S' => E x S') [some (.ref o), some (.str x)] S4 := fun hb K => by
          rw [hb, if_neg (by decide)] at hn
          walk_at "s"; walk_at "e"
          simp only [h4', lvl_mt]
          walk_at "e"
          show (lvl prg (n + 1)).fn 10 [.ref o] S4 _ _
          exact w_refuse h4 (qb (by simp) hn S4 x4)
        have fine : numB W = true → Q .non S4 := fun hb => by
          rw [hb, if_pos rfl] at hn
          exact qt W _ _ hn rfl _ x4 h4
        walk_at "s"; walk_at "e"
        simp only [h4']
        walk_at "e"
        refine ⟨of_eq_true (sz_le (by omega)), ?_⟩
        by_cases hl2 : W.length ≤ 2
        · rw [decide_eq_false (show ¬ ((2 : Int) < (W.length : Int)) by omega)]
          walk_at "e"
          simp only [h4']
          walk_at "e"
          have hW0 : W.headD 0 = a := by rw [hW]; rfl
          refine ⟨of_eq_true (sz_le (by omega)), a, by rw [hW]; exact atI_0, ?_⟩
          walk_at "e"
          have ok60 : (!(W.headD 0 == 48) || W == [48]) = true → ∀ i : Nat, i = val W → (decide ((60 : Int) < (i : Int)) = true → numB W = false) ∧ (decide ((60 : Int) < (i : Int)) = false → numB W = true) := fun hb i hi => by
            subst hi
            constructor
            · intro h60
              have := of_decide_eq_true h60
              rw [numB, decide_eq_false (show ¬ val W ≤ 60 by omega), Bool.and_false]
            · intro h60
              have := of_decide_eq_false h60
              rw [numB, decide_eq_true hl2, hb, decide_eq_true (show val W ≤ 60 by omega)]
              rfl
          cases h48 : (a == 48) with
          | true =>
            cases hw48 : (W == [48]) with
            | false =>
              walk_at "e"
              exact bad (by rw [numB, hW0, h48, hw48]; simp) _
            | true =>
              have hb : (!(W.headD 0 == 48) || W == [48]) = true := by rw [hw48, Bool.or_true]
              walk_at "e"
              refine ⟨_, int_of hW1 hl2 hWa, by omega, ?_⟩
              obtain ⟨o1, o2⟩ := ok60 hb _ rfl
              walk_at "e"
              cases h60 : decide ((60 : Int) < ((val W : Nat) : Int)) with
              | true =>
                walk_at "e"
                exact bad (o1 h60) _
              | false =>
                walk_at "e"
                repeat walk_at "s"
                exact fine (o2 h60)
          | false =>
            have hb : (!(W.headD 0 == 48) || W == [48]) = true := by rw [hW0, h48]; rfl
            walk_at "e"
            refine ⟨_, int_of hW1 hl2 hWa, by omega, ?_⟩
            obtain ⟨o1, o2⟩ := ok60 hb _ rfl
            walk_at "e"
            cases h60 : decide ((60 : Int) < ((val W : Nat) : Int)) with
            | true =>
              walk_at "e"
              exact bad (o1 h60) _
            | false =>
              walk_at "e"
              repeat walk_at "s"
              exact fine (o2 h60)
        · rw [decide_eq_true (show ((2 : Int) < (W.length : Int)) by omega)]
          walk_at "e"
          exact bad (by rw [numB, decide_eq_false hl2]; rfl) _
      | false =>
        have hn := nw_els (t := t) hlow hdig
        walk_at "e"
        walk_at "s"; walk_at "e"
        simp only [h2']
        walk_at "e"
        walk_at "s"; walk_at "e"
        simp only [Sto.upd_same]
        walk_at "e"
        refine ⟨of_eq_true (sz_le (by omega)), a, by rw [atI_nat]; exact ha, ?_⟩
        obtain ⟨S4, hS4⟩ : ∃ S4, S4 = (S2.upd o (.ins 0 [(1, .str x), (2, .int (P : Int)), (3, .int (N : Int)), (4, .str [115, 105, 103, 110]), (5, .str w), (0, .int (N : Int))])).upd o (.ins 0 [(1, .str x), (2, .int (P : Int)), (3, .int (N : Int)), (4, .str [115, 105, 103, 110]), (5, .str [a]), (0, .int (N : Int))]) := ⟨_, rfl⟩
        have h4 : S4 o = some (tkO x P N [115, 105, 103, 110] [a] (N : Int)) := by rw [hS4, Sto.upd_same]; rfl
        have x4 : Sxb o S S4 := by rw [hS4]; exact (x2.trans Sxb.put).trans Sxb.put
        rw [← hS4]
        clear hS4
        have h4' := h4
        unfold tkO at h4'
        have hsg : (a == 92 || (a == 46 || (a == 40 || (a == 41 || a == 61)))) = sgn.contains a := by simp only [sgn, List.contains_cons, List.contains_nil, Bool.or_false]
        walk_at "s"; walk_at "e"
        simp only [h4']
        walk_at "e"
        rw [hsg]
        cases hc : sgn.contains a with
        | true =>
          rw [hc, if_pos rfl] at hn
          walk_at "e"
          walk_at "s"
          walk_at "s"; walk_at "e"
          simp only [h4']
          walk_at "e"
          repeat walk_at "s"
          rw [show ((P : Int) + 1) = ((x.length - t.length : Nat) : Int) by omega]
          exact qt [a] t _ hn rfl _ (x4.trans Sxb.put) Sto.upd_same
        | false =>
          rw [hc, if_neg (by decide)] at hn
          walk_at "e"
          walk_at "s"; walk_at "e"
          simp only [h4', lvl_mt]
          walk_at "e"
          show (lvl prg (n + 1)).fn 10 [.ref o] S4 _ _
          exact w_refuse h4 (qb (by simp) hn S4 x4)
end K02
end Mini
end L2
namespace L2
namespace Mini
namespace K02
open PySem PySem.Spec PyProof.Rows
local macro_rules | `(tactic| walk_at "s") => `(tactic| first | with_reducible refine st_set ?_ | with_reducible refine st_ife ?_ | with_reducible refine st_ret ?_ | with_reducible refine st_ex ?_ | with_reducible refine st_unp ?_ | with_reducible refine st_unpl ?_ | with_reducible refine st_unpa ?_ | with_reducible refine st_aug ?_ | with_reducible refine st_for ?_ | with_reducible refine st_whl ?_ | with_reducible refine st_nil ?_ | with_reducible refine st_setix ?_ | with_reducible refine st_raise ?_ | with_reducible refine st_try ?_ | with_reducible refine st_setat ?_ | with_reducible refine st_augat ?_ | with_reducible refine st_pass ?_ | with_reducible refine st_brk ?_ | with_reducible refine st_cnt ?_)
local macro_rules | `(tactic| walk_at "e") => `(tactic| try simp only [fget, fput, eq_self, Nat.reduceEqDiff, and_true, Int.reduceBEq, wpC, goW, List.map_cons, List.map_nil, deq, deqs, List.any_cons, List.any_nil, slW, cut_1, Int.cast_ofNat_Int, Int.natCast_zero, Int.natCast_one, Int.reduceLE, Int.reduceLT, Int.reduceNeg, Int.reduceAdd, Int.reduceSub, decide_true, decide_false, inW_chr, List.contains_cons, List.contains_nil, Bool.or_true, Bool.true_or, Bool.or_false, Bool.false_or, gd, gds, List.all_cons, List.all_nil, Nat.reduceLT, List.zip_cons_cons, List.zip_nil_left, List.foldl_cons, List.foldl_nil, wpT, wpE, wpEs, wpO, wpI, env0, Env.get, List.map, List.length, List.replicate, List.getElem?_cons_zero, List.getElem?_cons_succ, List.nil_append, List.cons_append, List.append_nil, tru, isiW, cmpW, List.set, Nat.reduceSub, Nat.reduceAdd, Bool.not_true, Bool.not_false, Bool.false_eq_true, if_true, if_false, reduceIte, ixW, biW, bmTy, augW, tgW, newW, wpPs, dmerge, sqW_t, sqW_s, binW_ai, binW_si, binW_at, binW_as, binW_mi, binW_di, binW_mo, atI_0, atI_1, atI_2, ex_some, eqW_str, eqW_int, sz0, sz1, sz2, sz3, sz4, sz5, sz6, sz7, sz8, sz9, sz10, sz11, sz12, sz13, sz14, true_and, Bool.false_xor, Bool.true_xor, lb_cc, lb_nc, lb_cn, lb_nn, Nat.reduceBEq, Bool.and_true, Bool.true_and, Bool.false_and, Bool.and_false, beq_self_eq_true, binW_ms])
local macro_rules | `(tactic| walk_at "r") => `(tactic| ((try walk_at "s"); walk_at "e"; repeat (walk_at "s"; walk_at "e")))
local macro_rules | `(tactic| walk_at "w") => `(tactic| simp only [wpSs, wpS, wpT, wpE, wpEs, wpO, wpI, env0, Env.get, List.map, List.length, List.replicate, List.getElem?_cons_zero, List.getElem?_cons_succ, List.nil_append, List.cons_append, List.append_nil, tru, isiW, cmpW, List.set, Nat.reduceSub, Nat.reduceAdd, Bool.not_true, Bool.not_false, Bool.false_eq_true, if_true, if_false, reduceIte, ixW, biW, bmTy, sqW_t, sqW_s, binW_ai, binW_si, binW_at, binW_as, binW_mi, binW_di, binW_mo, atI_0, atI_1, atI_2, ex_some, eqW_str, eqW_int, sz0, sz1, sz2, sz3, sz4, sz5, sz6, sz7, sz11, true_and, Bool.false_xor, Bool.true_xor, lb_cc, lb_nc, lb_cn, lb_nn, Nat.reduceBEq, Bool.and_true, Bool.true_and, Bool.false_and, Bool.and_false, beq_self_eq_true])
local macro_rules | `(tactic| walk_at "q") => `(tactic| refine eqW_of rfl rfl (Nat.le_of_ble_eq_true rfl) ?_)
local macro_rules | `(tactic| walk_at "g") => `(tactic| (walk_at "r"; repeat (walk_at "q"; walk_at "r")))
/-! ### all tokens -/
inductive Tks : List Nat → Nat → List (List Nat × Nat) → Option Nat → Prop
  | fin {s : List Nat} {ln : Nat} : (sk false s).2 = [] → Tks s ln [] none
  | bad {s : List Nat} {ln : Nat} : (sk false s).2 ≠ [] → nw (sk false s).2 = none → Tks s ln [] (some (ln + (sk false s).1))
  | cons {s s' w : List Nat} {ln : Nat} {L : List (List Nat × Nat)} {b : Option Nat} : nw (sk false s).2 = some (w, s') → Tks s' (ln + (sk false s).1) L b → Tks s ln ((w, ln + (sk false s).1) :: L) b
abbrev tkD (t : List Nat × Nat) : D := .tup [.str t.1, .int (t.2 : Int)]
theorem w_goT {o : Addr} {x : List Nat} {p ln : Nat} {kd w : List Nat} {l : Int} {n : Nat} {S : Sto} {Q : QD} {E : QX} {L : List (List Nat × Nat)} {b : Option Nat} (h : S o = some (tkO x p ln kd w l)) (hp : p ≤ x.length) (hx : x.length ≤ 100000) (ht : Tks (x.drop p) ln L b)
    (q1 : L = [] → b = none → ∀ p' ln' S', Sxb o S S' → S' o = some (tkO x p' ln' sEnd [] (ln' : Int)) → Q .non S')
    (q2 : ∀ wd p' ln' kd' L', L = (wd, ln') :: L' → (kd' == sEnd) = false → p' ≤ x.length → Tks (x.drop p') ln' L' b → ∀ S', Sxb o S S' → S' o = some (tkO x p' ln' kd' wd (ln' : Int)) → Q .non S')
    (q3 : ∀ k : Nat, L = [] → b = some k → ∀ S', Sxb o S S' → E ⟨2, [(0, .int (k : Int))]⟩ S') : (lvl prg (n + 2)).fn 11 [.ref o] S Q E := by
  have sf := (sk_suf (x.drop p) false).trans (List.drop_suffix p x)
  cases ht with
  | fin e =>
    refine w_goon h hp hx (fun _ S' x' h' => q1 rfl rfl _ _ S' x' h') (fun wd s kd' hn _ S' _ _ => ?_) (fun hr _ S' _ => absurd e hr)
    rw [e] at hn
    cases hn
  | bad hr e =>
    refine w_goon h hp hx (fun e' S' x' h' => absurd e' hr) (fun wd s kd' hn _ S' _ _ => ?_) (fun _ _ S' x' => q3 _ rfl rfl S' x')
    rw [e] at hn
    cases hn
  | @cons _ s' w' _ L' _ e ht =>
    refine w_goon h hp hx (fun e' S' x' h' => ?_) (fun wd s kd' hn hk S' x' h' => ?_) (fun _ e' S' _ => by rw [e] at e'; cases e')
    · rw [e'] at e; cases e
    · rw [e] at hn
      cases hn
      obtain ⟨a, t, _, h1, _⟩ := nw_suf e
      have hs : s' <:+ x := by
        have : s' <:+ (sk false (x.drop p)).2 := by
          obtain ⟨a, t, ha, h1, _⟩ := nw_suf e
          rw [ha]
          exact h1.trans (List.suffix_cons a t)
        exact this.trans sf
      exact q2 w' _ _ kd' L' rfl hk (by omega) (by rw [suf_drop hs]; exact ht) S' x' h'
theorem w_tokens {x : List Nat} {n : Nat} {S : Sto} {Q : QD} {E : QX} {L : List (List Nat × Nat)} {b : Option Nat} (hx : x.length ≤ 100000) (hL : L.length ≤ 100000) (ht : Tks x 1 L b)
    (q1 : b = none → ∀ a S', S a = none → S' a = some (.lst (L.map tkD)) → Sx S S' → Q (.ref a) S') (q3 : ∀ k : Nat, b = some k → ∀ S', Sx S S' → E ⟨2, [(0, .int (k : Int))]⟩ S') : (lvl prg (n + 5)).fn 0 [.str x] S Q E := by
  refine ⟨rfl, ?_⟩
  unfold ir0
  walk_at "s"; walk_at "e"
  intro a ha
  walk_at "s"; walk_at "e"
  intro o ho
  have ne : a ≠ o := new_ne Sto.upd_same ho
  have ho0 : S o = none := by rw [Sto.upd_ne (Ne.symm ne)] at ho; exact ho
  have hi : ∀ args S Q E, (lvl prg (n + 4)).ini 0 args S Q E = (lvl prg (n + 3)).fn 9 args S Q E := fun _ _ _ _ => rfl
  rw [hi]
  -- the loop
  have loop : ∀ (S1 : Sto) (A R : List (List Nat × Nat)) (p ln : Nat) (kd w : List Nat) (l : Int), S1 o = some (tkO x p ln kd w l) → S1 a = some (.lst (A.map tkD)) → (∀ c d, c ≠ a → c ≠ o → S c = some d → S1 c = some d) → A ++ R = L → ((R = [] ∧ kd = sEnd ∧ b = none) ∨ (∃ R', R = (w, ln) :: R' ∧ l = (ln : Int) ∧ (kd == sEnd) = false ∧ p ≤ x.length ∧ Tks (x.drop p) ln R' b)) →
      wpSs (lvl prg (n + 4)) (.cons (.whl (.cmp .ne (.att (.var 2) 4) (.lit (.str [101, 110, 100]))) (whBody ir0)) (.cons (.ret (.var 1)) .nil)) { nx := fun _ S' => Q .non S', rt := Q } (fun x _ S' => E x S') [some (.str x), some (.ref a), some (.ref o)] S1 := by
    intro S1 A R p ln kd w l h1 h2 h3 hA hR
    walk_at "s"
    refine ⟨fun m σ S2 => ∃ (A R : List (List Nat × Nat)) (p ln : Nat) (kd w : List Nat) (l : Int), σ = [some (.str x), some (.ref a), some (.ref o)] ∧ S2 o = some (tkO x p ln kd w l) ∧ S2 a = some (.lst (A.map tkD)) ∧ (∀ c d, c ≠ a → c ≠ o → S c = some d → S2 c = some d) ∧ A ++ R = L ∧ ((R = [] ∧ kd = sEnd ∧ b = none) ∨ (∃ R', R = (w, ln) :: R' ∧ l = (ln : Int) ∧ (kd == sEnd) = false ∧ p ≤ x.length ∧ Tks (x.drop p) ln R' b)) ∧ m = R.length, ⟨_, A, R, p, ln, kd, w, l, rfl, h1, h2, h3, hA, hR, rfl⟩, ?_⟩
    rintro m σ S2 ⟨A, R, p, ln, kd, w, l, rfl, h1, h2, h3, hA, hR, rfl⟩
    have h1' := h1
    unfold tkO at h1'
    walk_at "e"
    simp only [h1']
    walk_at "e"
    rcases hR with ⟨rfl, rfl, hb⟩ | ⟨R', rfl, rfl, hk, hp, ht⟩
    · rw [show (sEnd == [101, 110, 100]) = true from rfl]
      walk_at "r"
      rw [List.append_nil] at hA
      subst hA
      exact q1 hb a S2 ha h2 fun c d hc => h3 c d (new_ne hc ha) (new_ne hc ho0) hc
    · rw [show (kd == [101, 110, 100]) = false from hk]
      dsimp only [whBody, ir0]
      walk_at "e"
      walk_at "s"; walk_at "e"
      simp only [h1']
      have hAl : A.length + R'.length + 1 = L.length := by rw [← hA]; simp; omega
      refine ⟨⟨_, h2⟩, ?_⟩
      walk_at "e"
      refine bm_app h2 (of_eq_true (sz_lt (by rw [List.length_map]; omega))) ?_
      have h4 : (S2.upd a (.lst (A.map tkD ++ [.tup [.str w, .int (ln : Int)]]))) o = some (tkO x p ln kd w (ln : Int)) := by rw [Sto.upd_ne (Ne.symm ne)]; exact h1
      have h4' := h4
      unfold tkO at h4'
      walk_at "s"; walk_at "e"
      simp only [h4', lvl_mt]
      walk_at "e"
      show (lvl prg (n + 4)).fn 11 [.ref o] _ _ _
      have hac : ∀ S3, Sxb o (S2.upd a (.lst (A.map tkD ++ [.tup [.str w, .int (ln : Int)]]))) S3 → S3 a = some (.lst ((A ++ [(w, ln)]).map tkD)) ∧ (∀ c d, c ≠ a → c ≠ o → S c = some d → S3 c = some d) := fun S3 x3 =>
        ⟨by rw [x3 _ _ ne Sto.upd_same]; simp, fun c d n1 n2 hc => x3 _ _ n2 (by rw [Sto.upd_ne n1]; exact h3 c d n1 n2 hc)⟩
      refine w_goT (n := n + 2) h4 hp hx ht (fun e1 e2 p' ln' S3 x3 h5 => ?_) (fun wd p' ln' kd' L' e1 hk' hp' ht' S3 x3 h5 => ?_) (fun k e1 e2 S3 x3 => ?_)
      · obtain ⟨g1, g2⟩ := hac S3 x3
        walk_at "s"
        exact ⟨0, by simp, A ++ [(w, ln)], [], p', ln', sEnd, [], _, rfl, h5, g1, g2, by rw [← hA, e1]; simp, .inl ⟨rfl, rfl, e2⟩, rfl⟩
      · obtain ⟨g1, g2⟩ := hac S3 x3
        walk_at "s"
        exact ⟨R'.length, by simp, A ++ [(w, ln)], R', p', ln', kd', wd, _, rfl, h5, g1, g2, by rw [← hA]; simp, .inr ⟨L', e1, rfl, hk', hp', ht'⟩, rfl⟩
      · exact q3 k e2 S3 fun c d hc => (hac S3 x3).2 c d (new_ne hc ha) (new_ne hc ho0) hc
  refine ⟨rfl, ?_⟩
  unfold ir9
  walk_at "s"; walk_at "e"
  simp only [Sto.upd_same]
  walk_at "e"
  walk_at "s"; walk_at "e"
  simp only [Sto.upd_same]
  walk_at "e"
  walk_at "s"; walk_at "e"
  simp only [Sto.upd_same]
  walk_at "e"
  walk_at "s"; walk_at "e"
  simp only [Sto.upd_same]
  walk_at "e"
  walk_at "s"; walk_at "e"
  simp only [Sto.upd_same]
  walk_at "e"
  walk_at "s"; walk_at "e"
  simp only [Sto.upd_same]
  walk_at "e"
  walk_at "s"; walk_at "e"
  simp only [Sto.upd_same, lvl_mt]
  walk_at "e"
  generalize hS : (((((((S.upd a (.lst [])).upd o (.ins 0 [])).upd o _).upd o _).upd o _).upd o _).upd o _).upd o _ = S2
  have h2 : S2 o = some (tkO x 0 1 [] [] 1) := by rw [← hS, Sto.upd_same]; rfl
  have h2a : S2 a = some (.lst []) := by rw [← hS]; simp only [Sto.upd_ne ne, Sto.upd_same]
  have h2c : ∀ c d, c ≠ a → c ≠ o → S c = some d → S2 c = some d := fun c d n1 n2 hc => by rw [← hS]; simp only [Sto.upd_ne n1, Sto.upd_ne n2]; exact hc
  have hac : ∀ S3, Sxb o S2 S3 → S3 a = some (.lst (([] : List (List Nat × Nat)).map tkD)) ∧ (∀ c d, c ≠ a → c ≠ o → S c = some d → S3 c = some d) := fun S3 x3 => ⟨x3 _ _ ne h2a, fun c d n1 n2 hc => x3 _ _ n2 (h2c c d n1 n2 hc)⟩
  show (lvl prg (n + 2)).fn 11 [.ref o] S2 _ _
  refine w_goT (n := n) h2 (Nat.zero_le _) hx (by rw [List.drop_zero]; exact ht) (fun e1 e2 p' ln' S3 x3 h5 => ?_) (fun wd p' ln' kd' L' e1 hk' hp' ht' S3 x3 h5 => ?_) (fun k e1 e2 S3 x3 => ?_)
  · obtain ⟨g1, g2⟩ := hac S3 x3
    walk_at "s"
    exact loop S3 [] [] _ _ _ _ _ h5 g1 g2 (by rw [e1]; rfl) (.inl ⟨rfl, rfl, e2⟩)
  · obtain ⟨g1, g2⟩ := hac S3 x3
    walk_at "s"
    exact loop S3 [] L _ _ _ _ _ h5 g1 g2 rfl (.inr ⟨L', e1, rfl, hk', hp', ht'⟩)
  · exact q3 k e2 S3 fun c d hc => (hac S3 x3).2 c d (new_ne hc ha) (new_ne hc ho0) hc
theorem w_told {x : List Nat} {n : Nat} {S : Sto} {Q : QD} {E : QX} {L : List (List Nat × Nat)} {b : Option Nat} (hx : x.length ≤ 100000) (hL : L.length ≤ 100000) (ht : Tks x 1 L b)
    (q1 : b = none → ∀ a S', S a = none → S' a = some (.lst (L.map tkD)) → Sx S S' → Q (.ref a) S') (q3 : ∀ k : Nat, b = some k → ∀ S', Sx S S' → Q (.int (k : Int)) S') : (lvl prg (n + 6)).fn 7 [.str x] S Q E := by
  refine ⟨rfl, ?_⟩
  unfold ir7
  walk_at "r"
  refine w_tokens (n := n) hx hL ht (fun e a S' ha h x' => q1 e a S' ha h x') fun k e S' x' => ?_
  simp only [tryW, lvl_xsub, xsub, suW, seW]
  walk_at "e"
  first | exact q3 k e S' x' | exact ⟨by simp, q3 k e S' x'⟩
end K02
end Mini
end L2
namespace L2
namespace Mini
namespace K02
open PySem PySem.Spec PyProof.Rows
local macro_rules | `(tactic| walk_at "s") => `(tactic| first | with_reducible refine st_set ?_ | with_reducible refine st_ife ?_ | with_reducible refine st_ret ?_ | with_reducible refine st_ex ?_ | with_reducible refine st_unp ?_ | with_reducible refine st_unpl ?_ | with_reducible refine st_unpa ?_ | with_reducible refine st_aug ?_ | with_reducible refine st_for ?_ | with_reducible refine st_whl ?_ | with_reducible refine st_nil ?_ | with_reducible refine st_setix ?_ | with_reducible refine st_raise ?_ | with_reducible refine st_try ?_ | with_reducible refine st_setat ?_ | with_reducible refine st_augat ?_ | with_reducible refine st_pass ?_ | with_reducible refine st_brk ?_ | with_reducible refine st_cnt ?_)
local macro_rules | `(tactic| walk_at "e") => `(tactic| try simp only [fget, fput, eq_self, Nat.reduceEqDiff, and_true, Int.reduceBEq, wpC, goW, List.map_cons, List.map_nil, deq, deqs, List.any_cons, List.any_nil, slW, cut_1, Int.cast_ofNat_Int, Int.natCast_zero, Int.natCast_one, Int.reduceLE, Int.reduceLT, Int.reduceNeg, Int.reduceAdd, Int.reduceSub, decide_true, decide_false, inW_chr, List.contains_cons, List.contains_nil, Bool.or_true, Bool.true_or, Bool.or_false, Bool.false_or, gd, gds, List.all_cons, List.all_nil, Nat.reduceLT, List.zip_cons_cons, List.zip_nil_left, List.foldl_cons, List.foldl_nil, wpT, wpE, wpEs, wpO, wpI, env0, Env.get, List.map, List.length, List.replicate, List.getElem?_cons_zero, List.getElem?_cons_succ, List.nil_append, List.cons_append, List.append_nil, tru, isiW, cmpW, List.set, Nat.reduceSub, Nat.reduceAdd, Bool.not_true, Bool.not_false, Bool.false_eq_true, if_true, if_false, reduceIte, ixW, biW, bmTy, augW, tgW, newW, wpPs, dmerge, sqW_t, sqW_s, binW_ai, binW_si, binW_at, binW_as, binW_mi, binW_di, binW_mo, atI_0, atI_1, atI_2, ex_some, eqW_str, eqW_int, sz0, sz1, sz2, sz3, sz4, sz5, sz6, sz7, sz8, sz9, sz10, sz11, sz12, sz13, sz14, true_and, Bool.false_xor, Bool.true_xor, lb_cc, lb_nc, lb_cn, lb_nn, Nat.reduceBEq, Bool.and_true, Bool.true_and, Bool.false_and, Bool.and_false, beq_self_eq_true, binW_ms])
local macro_rules | `(tactic| walk_at "r") => `(tactic| ((try walk_at "s"); walk_at "e"; repeat (walk_at "s"; walk_at "e")))
local macro_rules | `(tactic| walk_at "w") => `(tactic| simp only [wpSs, wpS, wpT, wpE, wpEs, wpO, wpI, env0, Env.get, List.map, List.length, List.replicate, List.getElem?_cons_zero, List.getElem?_cons_succ, List.nil_append, List.cons_append, List.append_nil, tru, isiW, cmpW, List.set, Nat.reduceSub, Nat.reduceAdd, Bool.not_true, Bool.not_false, Bool.false_eq_true, if_true, if_false, reduceIte, ixW, biW, bmTy, sqW_t, sqW_s, binW_ai, binW_si, binW_at, binW_as, binW_mi, binW_di, binW_mo, atI_0, atI_1, atI_2, ex_some, eqW_str, eqW_int, sz0, sz1, sz2, sz3, sz4, sz5, sz6, sz7, sz11, true_and, Bool.false_xor, Bool.true_xor, lb_cc, lb_nc, lb_cn, lb_nn, Nat.reduceBEq, Bool.and_true, Bool.true_and, Bool.false_and, Bool.and_false, beq_self_eq_true])
local macro_rules | `(tactic| walk_at "q") => `(tactic| refine eqW_of rfl rfl (Nat.le_of_ble_eq_true rfl) ?_)
local macro_rules | `(tactic| walk_at "g") => `(tactic| (walk_at "r"; repeat (walk_at "q"; walk_at "r")))
/-! ### the text that is laid out, plainly -/
def gpB : Bool → List Nat → Bool
  | c, [] => !c
  | c, a :: r => if a = 10 then gpB false r else if c = true then gpB true r else if a = 35 then gpB true r else if a = 32 then gpB false r else false
theorem gpB_ok : ∀ (g : List Nat), (gpB false g = true → Gp g) ∧ (gpB true g = true → Cm g)
  | [] => ⟨fun _ => Gp.nil, fun h => by cases h⟩
  | a :: r => by
    obtain ⟨i1, i2⟩ := gpB_ok r
    constructor
    · intro h
      simp only [gpB] at h
      split at h
      · rename_i e; subst e; exact .cons10 (i1 h)
      · rw [if_neg (by decide)] at h
        split at h
        · rename_i e; subst e; exact .of_cm (i2 h)
        · split at h
          · rename_i e; subst e; exact .cons32 (i1 h)
          · cases h
    · intro h
      simp only [gpB] at h
      split at h
      · rename_i e; subst e; exact .end_ (i1 h)
      · rename_i e
        simp only [if_true] at h
        exact .cons (i2 h) e
theorem gp_of {g : List Nat} (h : gpB false g = true) : Gp g := (gpB_ok g).1 h
def need (w v : List Nat) : Bool := aln (w.getLastD 0) && (aln (v.headD 0) && !(dig (w.headD 0) && low (v.headD 0)))
def gapOk (w g v : List Nat) : Prop := Gp g ∧ (g = [] → need w v = false) ∧ ∀ c r, g = c :: r → c = 10 ∨ c = 32 ∨ c = 35
def Tr (t : List Nat) : Prop := sk false t = (cnt t, []) ∧ ∀ c r, t = c :: r → c = 10 ∨ c = 32 ∨ c = 35
theorem gap_c {c : Nat} (h : c = 10 ∨ c = 32 ∨ c = 35) : aln c = false ∧ dig c = false := by rcases h with rfl | rfl | rfl <;> decide
theorem aln_no10 {r : List Nat} (h : r.all aln = true) : cnt r = 0 := by
  simp only [cnt, List.length_eq_zero_iff, List.filter_eq_nil_iff]
  intro c hc
  rw [List.all_eq_true] at h
  have := h c hc
  intro e
  have : c = 10 := by simpa using e
  subst this
  exact absurd (h 10 hc) (by decide)
theorem Vw.cnt {w : List Nat} (h : Vw w) : Mini.K02.cnt w = 0 := by
  cases h with
  | @sign c h =>
    have := (sgn_of h).2.2
    simp only [solid, Bool.and_eq_true, decide_eq_true_eq] at this
    have e : (c == 10) = false := beq_eq_false_iff_ne.mpr this.1.1
    simp [Mini.K02.cnt, e]
  | num h =>
    simp only [List.mem_cons, List.not_mem_nil, or_false] at h
    rcases h with rfl | rfl | rfl | rfl | rfl <;> decide
  | @name a r h1 h2 h3 => exact aln_no10 (r := a :: r) (by rw [List.all_cons, h2, aln, h1]; rfl)
theorem getLastD_all {p : Nat → Bool} {a : Nat} : ∀ {r : List Nat}, (a :: r).all p = true → p ((a :: r).getLastD 0) = true
  | [], h => by simpa using h
  | b :: r, h => by
    simp only [List.all_cons, Bool.and_eq_true] at h
    have := getLastD_all (a := b) (r := r) (by simp only [List.all_cons, Bool.and_eq_true]; exact h.2)
    simpa [List.getLastD_cons] using this
/-- a right word and what comes behind it -/
theorem Vw.sep {w g v : List Nat} (h : Vw w) (hg : gapOk w g v) (hv : ∃ a r, v = a :: r) (s : List Nat) : Mini.K02.sep w (g ++ (v ++ s)) := by
  obtain ⟨b, r', rfl⟩ := hv
  cases g with
  | cons c g =>
    have := gap_c (hg.2.2 c g rfl)
    cases w with
    | nil => trivial
    | cons a w => exact ⟨fun _ => this.1, fun _ => this.2⟩
  | nil =>
    have hn := hg.2.1 rfl
    cases h with
    | @sign c h =>
      obtain ⟨h1, h2, _⟩ := sgn_of h
      exact ⟨fun e => (by rw [h1] at e; cases e), fun e => (by rw [h2] at e; cases e)⟩
    | num h =>
      have go : ∀ (a : Nat) (r : List Nat), dig a = true → low a = false → (a :: r).all aln = true → need (a :: r) (b :: r') = false → Mini.K02.sep (a :: r) ([] ++ (b :: r' ++ s)) := fun a r h1 h2 h3 h4 => by
        refine ⟨fun e => (by rw [h2] at e; cases e), fun _ => ?_⟩
        simp only [need, getLastD_all h3, List.headD_cons, h1, Bool.true_and] at h4
        cases hb : dig b with
        | false => rfl
        | true =>
          have hl : low b = false := by
            cases hl : low b with
            | false => rfl
            | true => rw [(low_solid hl).2] at hb; cases hb
          rw [aln, hb, hl] at h4
          cases h4
      simp only [List.mem_cons, List.not_mem_nil, or_false] at h
      rcases h with rfl | rfl | rfl | rfl | rfl <;> exact go _ _ (by decide) (by decide) (by decide) hn
    | @name a r h1 h2 h3 =>
      have hd := (low_solid h1).2
      refine ⟨fun _ => ?_, fun e => (by rw [hd] at e; cases e)⟩
      have ha : (a :: r).all aln = true := by rw [List.all_cons, h2, aln, h1]; rfl
      simp only [need, getLastD_all ha, List.headD_cons, hd, Bool.true_and, Bool.false_and, Bool.not_false, Bool.and_true] at hn
      exact hn
theorem Vw.sepT {w t : List Nat} (ht : Tr t) : Mini.K02.sep w t := by
  cases t with
  | nil => cases w <;> trivial
  | cons c t =>
    have := gap_c (ht.2 c t rfl)
    cases w with
    | nil => trivial
    | cons a w => exact ⟨fun _ => this.1, fun _ => this.2⟩
abbrev Pw : Type := List Nat × List Nat
def flat : List Pw → List Nat
  | [] => []
  | p :: P => p.1 ++ (p.2 ++ flat P)
def ch : List Pw → Prop
  | [] => True
  | [p] => p.2 = []
  | p :: q :: P => gapOk p.1 p.2 q.1 ∧ ch (q :: P)
/-- the lines of the words -/
def lns : Nat → List Pw → List Nat
  | _, [] => []
  | a, p :: P => a :: lns (a + cnt p.2) P
def zl : Nat → List Pw → List (List Nat × Nat)
  | _, [] => []
  | a, p :: P => (p.1, a) :: zl (a + cnt p.2) P
def tot : List Pw → Nat
  | [] => 0
  | p :: P => cnt p.2 + tot P
theorem ch_gp {p : Pw} {P : List Pw} (h : ch (p :: P)) : Gp p.2 := by
  cases P with
  | nil => have : p.2 = [] := h; rw [this]; exact Gp.nil
  | cons q P => exact h.1.1
theorem ch_tl {p : Pw} {P : List Pw} (h : ch (p :: P)) : ch P := by
  cases P with
  | nil => trivial
  | cons q P => exact h.2
theorem tks_bad : ∀ (P1 : List Pw) (g : List Nat) (ln : Nat) (wb gb : List Nat) (P2 : List Pw) (t : List Nat), Gp g → ch (P1 ++ (wb, gb) :: P2) → (∀ p ∈ P1, Vw p.1) → Bw wb → Tks (g ++ (flat (P1 ++ (wb, gb) :: P2) ++ t)) ln (zl (ln + cnt g) P1) (some (ln + cnt g + tot P1))
  | [], g, ln, wb, gb, P2, t, hg, hc, hv, hb => by
    obtain ⟨a, r, rfl, hs, hn⟩ := hb
    have e := hg (flat ((a :: r, gb) :: P2) ++ t)
    have e2 : sk false (flat ((a :: r, gb) :: P2) ++ t) = (0, flat ((a :: r, gb) :: P2) ++ t) := sk_solid hs
    rw [e2] at e
    have := Tks.bad (s := g ++ (flat ((a :: r, gb) :: P2) ++ t)) (ln := ln) (by rw [e]; intro h; cases h) (by
      rw [e]
      show nw (((a :: r) ++ (gb ++ flat P2)) ++ t) = none
      rw [List.append_assoc]
      exact hn _)
    rw [e] at this
    simpa [zl, tot] using this
  | (w, g') :: P1, g, ln, wb, gb, P2, t, hg, hc, hv, hb => by
    have hw : Vw w := hv (w, g') List.mem_cons_self
    obtain ⟨a, r, ew, hs⟩ := hw.head
    have hc1 := ch_gp hc
    have hc2 := ch_tl hc
    have ih := tks_bad P1 g' (ln + cnt g) wb gb P2 t hc1 hc2 (fun p hp => hv p (List.mem_cons_of_mem _ hp)) hb
    have e := hg (w ++ (g' ++ (flat (P1 ++ (wb, gb) :: P2) ++ t)))
    have e2 : sk false (w ++ (g' ++ (flat (P1 ++ (wb, gb) :: P2) ++ t))) = (0, w ++ (g' ++ (flat (P1 ++ (wb, gb) :: P2) ++ t))) := by rw [ew]; exact sk_solid hs
    rw [e2] at e
    have hsep : sep w (g' ++ (flat (P1 ++ (wb, gb) :: P2) ++ t)) := by
      cases P1 with
      | nil =>
        obtain ⟨b, rb, eb, _⟩ := hb
        have := hw.sep (g := g') (v := wb) hc.1 ⟨b, rb, eb⟩ ((gb ++ flat P2) ++ t)
        simpa [flat, List.append_assoc] using this
      | cons q P1 =>
        have hq : Vw q.1 := hv q (by simp)
        obtain ⟨b, rb, eb, _⟩ := hq.head
        have := hw.sep (g := g') (v := q.1) hc.1 ⟨b, rb, eb⟩ ((q.2 ++ flat (P1 ++ (wb, gb) :: P2)) ++ t)
        simpa [flat, List.append_assoc] using this
    have := Tks.cons (s := g ++ (w ++ (g' ++ (flat (P1 ++ (wb, gb) :: P2) ++ t)))) (ln := ln) (by rw [e]; exact hw.nw hsep) (by rw [e]; exact ih)
    rw [e] at this
    have ef : g ++ (flat ((w, g') :: P1 ++ (wb, gb) :: P2) ++ t) = g ++ (w ++ (g' ++ (flat (P1 ++ (wb, gb) :: P2) ++ t))) := by simp [flat, List.append_assoc]
    rw [ef]
    simpa [zl, tot, Nat.add_assoc] using this
theorem tks_all : ∀ (P : List Pw) (g : List Nat) (ln : Nat) (t : List Nat), Gp g → ch P → (∀ p ∈ P, Vw p.1) → Tr t → Tks (g ++ (flat P ++ t)) ln (zl (ln + cnt g) P) none
  | [], g, ln, t, hg, hc, hv, ht => by
    have e := hg t
    rw [ht.1] at e
    exact Tks.fin (by show (sk false (g ++ t)).2 = []; rw [e])
  | (w, g') :: P, g, ln, t, hg, hc, hv, ht => by
    have hw : Vw w := hv (w, g') List.mem_cons_self
    obtain ⟨a, r, ew, hs⟩ := hw.head
    have hc1 := ch_gp hc
    have hc2 := ch_tl hc
    have ih := tks_all P g' (ln + cnt g) t hc1 hc2 (fun p hp => hv p (List.mem_cons_of_mem _ hp)) ht
    have e := hg (w ++ (g' ++ (flat P ++ t)))
    have e2 : sk false (w ++ (g' ++ (flat P ++ t))) = (0, w ++ (g' ++ (flat P ++ t))) := by rw [ew]; exact sk_solid hs
    rw [e2] at e
    have hsep : sep w (g' ++ (flat P ++ t)) := by
      cases P with
      | nil =>
        have e0 : g' = [] := hc
        rw [e0]
        exact Vw.sepT ht
      | cons q P =>
        have hq : Vw q.1 := hv q (by simp)
        obtain ⟨b, rb, eb, _⟩ := hq.head
        have := hw.sep (g := g') (v := q.1) hc.1 ⟨b, rb, eb⟩ ((q.2 ++ flat P) ++ t)
        simpa [flat, List.append_assoc] using this
    have := Tks.cons (s := g ++ (w ++ (g' ++ (flat P ++ t)))) (ln := ln) (by rw [e]; exact hw.nw hsep) (by rw [e]; exact ih)
    rw [e] at this
    have ef : g ++ (flat ((w, g') :: P) ++ t) = g ++ (w ++ (g' ++ (flat P ++ t))) := by simp [flat, List.append_assoc]
    rw [ef]
    simpa [zl, Nat.add_assoc] using this
/-! words that are none -/
theorem bw_long {a : Nat} {r : List Nat} (h1 : low a = true) (h2 : r.all aln = true) (h3 : 12 ≤ r.length) : Bw (a :: r) := by
  refine ⟨a, r, rfl, (low_solid h1).1, fun s => ?_⟩
  have ht : ∀ (r s : List Nat), r.all aln = true → (r ++ s).takeWhile aln = r ++ s.takeWhile aln := fun r s h => by
    induction r with
    | nil => rfl
    | cons b r ih =>
      simp only [List.all_cons, Bool.and_eq_true] at h
      simp only [List.cons_append, List.takeWhile, h.1, ih h.2]
  rw [List.cons_append, nw_low h1, ht r s h2]
  have hl : 13 ≤ (a :: (r ++ s.takeWhile aln)).length := by simp only [List.length_cons, List.length_append]; omega
  have hwb : wordB (a :: (r ++ s.takeWhile aln)) = false := by
    rw [wordB, Bool.or_eq_false_iff]
    exact ⟨beq_eq_false_iff_ne.mpr fun e => by rw [e] at hl; simp at hl, beq_eq_false_iff_ne.mpr fun e => by rw [e] at hl; simp at hl⟩
  rw [hwb, decide_eq_false (show ¬ (a :: (r ++ s.takeWhile aln)).length ≤ 12 by omega)]
  rfl
theorem bw_num {a : Nat} {r : List Nat} (h1 : dig a = true) (h2 : low a = false) (h3 : r.all dig = true) (h4 : 1 ≤ r.length) (h5 : numB (a :: r) = false) (hs : solid a = true) : Bw (a :: r) := by
  refine ⟨a, r, rfl, hs, fun s => ?_⟩
  have ht : ∀ (r s : List Nat), r.all dig = true → (r ++ s).takeWhile dig = r ++ s.takeWhile dig := fun r s h => by
    induction r with
    | nil => rfl
    | cons b r ih =>
      simp only [List.all_cons, Bool.and_eq_true] at h
      simp only [List.cons_append, List.takeWhile, h.1, ih h.2]
  rw [List.cons_append, nw_dig h2 h1, ht r s h3]
  have : numB (a :: (r ++ s.takeWhile dig)) = false := by
    cases e : s.takeWhile dig with
    | nil => rw [List.append_nil]; exact h5
    | cons b q =>
      rw [numB, decide_eq_false (by simp only [List.length_cons, List.length_append]; omega)]
      rfl
  rw [this]
  rfl
theorem bw_sign {a : Nat} (h1 : low a = false) (h2 : dig a = false) (h3 : sgn.contains a = false) (hs : solid a = true) : Bw [a] := by
  refine ⟨a, [], rfl, hs, fun s => ?_⟩
  rw [List.cons_append, nw_els h1 h2, h3]
  rfl
end K02
end Mini
end L2
namespace L2
namespace Mini
namespace K02
open PySem PySem.Spec PyProof.Rows
local macro_rules | `(tactic| walk_at "s") => `(tactic| first | with_reducible refine st_set ?_ | with_reducible refine st_ife ?_ | with_reducible refine st_ret ?_ | with_reducible refine st_ex ?_ | with_reducible refine st_unp ?_ | with_reducible refine st_unpl ?_ | with_reducible refine st_unpa ?_ | with_reducible refine st_aug ?_ | with_reducible refine st_for ?_ | with_reducible refine st_whl ?_ | with_reducible refine st_nil ?_ | with_reducible refine st_setix ?_ | with_reducible refine st_raise ?_ | with_reducible refine st_try ?_ | with_reducible refine st_setat ?_ | with_reducible refine st_augat ?_ | with_reducible refine st_pass ?_ | with_reducible refine st_brk ?_ | with_reducible refine st_cnt ?_)
local macro_rules | `(tactic| walk_at "e") => `(tactic| try simp only [fget, fput, eq_self, Nat.reduceEqDiff, and_true, Int.reduceBEq, wpC, goW, List.map_cons, List.map_nil, deq, deqs, List.any_cons, List.any_nil, slW, cut_1, Int.cast_ofNat_Int, Int.natCast_zero, Int.natCast_one, Int.reduceLE, Int.reduceLT, Int.reduceNeg, Int.reduceAdd, Int.reduceSub, decide_true, decide_false, inW_chr, List.contains_cons, List.contains_nil, Bool.or_true, Bool.true_or, Bool.or_false, Bool.false_or, gd, gds, List.all_cons, List.all_nil, Nat.reduceLT, List.zip_cons_cons, List.zip_nil_left, List.foldl_cons, List.foldl_nil, wpT, wpE, wpEs, wpO, wpI, env0, Env.get, List.map, List.length, List.replicate, List.getElem?_cons_zero, List.getElem?_cons_succ, List.nil_append, List.cons_append, List.append_nil, tru, isiW, cmpW, List.set, Nat.reduceSub, Nat.reduceAdd, Bool.not_true, Bool.not_false, Bool.false_eq_true, if_true, if_false, reduceIte, ixW, biW, bmTy, augW, tgW, newW, wpPs, dmerge, sqW_t, sqW_s, binW_ai, binW_si, binW_at, binW_as, binW_mi, binW_di, binW_mo, atI_0, atI_1, atI_2, ex_some, eqW_str, eqW_int, sz0, sz1, sz2, sz3, sz4, sz5, sz6, sz7, sz8, sz9, sz10, sz11, sz12, sz13, sz14, true_and, Bool.false_xor, Bool.true_xor, lb_cc, lb_nc, lb_cn, lb_nn, Nat.reduceBEq, Bool.and_true, Bool.true_and, Bool.false_and, Bool.and_false, beq_self_eq_true, binW_ms])
local macro_rules | `(tactic| walk_at "r") => `(tactic| ((try walk_at "s"); walk_at "e"; repeat (walk_at "s"; walk_at "e")))
local macro_rules | `(tactic| walk_at "w") => `(tactic| simp only [wpSs, wpS, wpT, wpE, wpEs, wpO, wpI, env0, Env.get, List.map, List.length, List.replicate, List.getElem?_cons_zero, List.getElem?_cons_succ, List.nil_append, List.cons_append, List.append_nil, tru, isiW, cmpW, List.set, Nat.reduceSub, Nat.reduceAdd, Bool.not_true, Bool.not_false, Bool.false_eq_true, if_true, if_false, reduceIte, ixW, biW, bmTy, sqW_t, sqW_s, binW_ai, binW_si, binW_at, binW_as, binW_mi, binW_di, binW_mo, atI_0, atI_1, atI_2, ex_some, eqW_str, eqW_int, sz0, sz1, sz2, sz3, sz4, sz5, sz6, sz7, sz11, true_and, Bool.false_xor, Bool.true_xor, lb_cc, lb_nc, lb_cn, lb_nn, Nat.reduceBEq, Bool.and_true, Bool.true_and, Bool.false_and, Bool.and_false, beq_self_eq_true])
local macro_rules | `(tactic| walk_at "q") => `(tactic| refine eqW_of rfl rfl (Nat.le_of_ble_eq_true rfl) ?_)
local macro_rules | `(tactic| walk_at "g") => `(tactic| (walk_at "r"; repeat (walk_at "q"; walk_at "r")))
/-! ### the law's texts -/
theorem w_fone {b a : Addr} {row : List D} {n : Nat} {S : Sto} {Q : QD} {E : QX} (h : Bg b S) (ha : S a = some (.lst row)) (ne : a ≠ b) (h0 : 0 < row.length) (hm : row.length < 1000000) (q : ∀ (d : D) S', d ∈ row → Bg b S' → Sxb b S S' → Q d S') : (lvl prg (n + 2)).fn 3 [.ref b, .ref a] S Q E := by
  refine ⟨rfl, ?_⟩
  unfold ir3
  walk_at "s"; walk_at "e"
  simp only [ha]
  walk_at "e"
  refine w_fdraw (n := n) h h0 hm fun r S1 hr h1 x1 => ?_
  simp only [x1 _ _ ne ha]
  exact ⟨row[r], by rw [atI_nat, List.getElem?_eq_getElem hr], q _ S1 (List.getElem_mem hr) h1 x1⟩
theorem rd_cases2 {S : Sto} {a : Addr} {ds : List D} (h : rd S a = some ds) : S a = some (.lst ds) ∨ S a = some (.fls ds) := by
  unfold rd at h
  split at h
  · rename_i e; cases h; exact .inl e
  · rename_i e; cases h; exact .inr e
  · cases h
theorem w_bag {a : Addr} {ns : List Int} {k n : Nat} {S : Sto} {Q : QD} {E : QX} (ha : rd S a = some (ns.map D.int)) (q : ∀ b S', S b = none → Bg b S' → Sx S S' → Q (.ref b) S') : (lvl prg (n + 1)).fn 1 [.ref a, .int (k : Int)] S Q E := by
  rcases rd_cases2 ha with ha | ha
  · refine ⟨rfl, ?_⟩
    have last : ∀ (v : Int), wpSs (lvl prg n) (dropS2 2 ir1) { nx := fun _ S' => Q .non S', rt := Q } (fun x _ S' => E x S') [some (.ref a), some (.int (k : Int)), some (.int v)] S := fun v => by
      unfold ir1
      dsimp only [dropS2]
      walk_at "s"; walk_at "e"
      refine ⟨.inl (by unfold smallI; omega), ?_⟩
      intro b hb
      exact q b _ hb ⟨_, _, _, _, Sto.upd_same⟩ (Sx.new hb)
    unfold ir1
    walk_at "s"; walk_at "e"
    walk_at "s"; walk_at "e"
    simp only [ha, List.length_map]
    by_cases c : k < ns.length
    · rw [decide_eq_true (show (k : Int) < (ns.length : Int) by omega)]
      walk_at "e"
      walk_at "s"; walk_at "e"
      simp only [ha]
      refine ⟨.int ns[k], by rw [atI_nat, List.getElem?_map, List.getElem?_eq_getElem c]; rfl, ?_⟩
      walk_at "e"
      walk_at "s"
      exact last ns[k]
    · rw [decide_eq_false (show ¬ (k : Int) < (ns.length : Int) by omega)]
      walk_at "e"
      walk_at "s"
      exact last 0
  · refine ⟨rfl, ?_⟩
    have last : ∀ (v : Int), wpSs (lvl prg n) (dropS2 2 ir1) { nx := fun _ S' => Q .non S', rt := Q } (fun x _ S' => E x S') [some (.ref a), some (.int (k : Int)), some (.int v)] S := fun v => by
      unfold ir1
      dsimp only [dropS2]
      walk_at "s"; walk_at "e"
      refine ⟨.inl (by unfold smallI; omega), ?_⟩
      intro b hb
      exact q b _ hb ⟨_, _, _, _, Sto.upd_same⟩ (Sx.new hb)
    unfold ir1
    walk_at "s"; walk_at "e"
    walk_at "s"; walk_at "e"
    simp only [ha, List.length_map]
    by_cases c : k < ns.length
    · rw [decide_eq_true (show (k : Int) < (ns.length : Int) by omega)]
      walk_at "e"
      walk_at "s"; walk_at "e"
      simp only [ha]
      refine ⟨.int ns[k], by rw [atI_nat, List.getElem?_map, List.getElem?_eq_getElem c]; rfl, ?_⟩
      walk_at "e"
      walk_at "s"
      exact last ns[k]
    · rw [decide_eq_false (show ¬ (k : Int) < (ns.length : Int) by omega)]
      walk_at "e"
      walk_at "s"
      exact last 0
theorem aln_or (a : Nat) : (a == 97 || (a == 98 || (a == 99 || (a == 100 || (a == 101 || (a == 102 || (a == 103 || (a == 104 || (a == 105 || (a == 106 || (a == 107 || (a == 108 || (a == 109 || (a == 110 || (a == 111 || (a == 112 || (a == 113 || (a == 114 || (a == 115 || (a == 116 || (a == 117 || (a == 118 || (a == 119 || (a == 120 || (a == 121 || (a == 122 || (a == 48 || (a == 49 || (a == 50 || (a == 51 || (a == 52 || (a == 53 || (a == 54 || (a == 55 || (a == 56 || a == 57))))))))))))))))))))))))))))))))))) = aln a := by
  rw [Bool.eq_iff_iff]
  simp only [aln, low, dig, Bool.or_eq_true, beq_iff_eq, Bool.and_eq_true, decide_eq_true_eq]
  omega
abbrev sg36 : List Nat := [97, 98, 99, 100, 101, 102, 103, 104, 105, 106, 107, 108, 109, 110, 111, 112, 113, 114, 115, 116, 117, 118, 119, 120, 121, 122, 48, 49, 50, 51, 52, 53, 54, 55, 56, 57]
theorem cut26a : cutD sg36 (some 26) none = digL := cut_from (xs := sg36) (k := 26)
theorem cut26b : cutD sg36 none (some 26) = lowL := cut_to (xs := sg36) (k := 26)
theorem atI_neg1 {w : List Nat} (h : w ≠ []) : atI w (-1) = some (w.getLastD 0) := by
  rcases snoc_cases w with rfl | ⟨L, c, rfl⟩
  · exact absurd rfl h
  · unfold atI ixN
    rw [if_neg (by omega), if_pos (by simp only [List.length_append, List.length_cons, List.length_nil]; omega)]
    show (L ++ [c])[(-1 + ((L ++ [c]).length : Int)).toNat]? = _
    rw [show (-1 + ((L ++ [c]).length : Int)).toNat = L.length by simp only [List.length_append, List.length_cons, List.length_nil]; omega]
    simp
theorem atI_hd {w : List Nat} (h : w ≠ []) : atI w 0 = some (w.headD 0) := by
  cases w with
  | nil => exact absurd rfl h
  | cons a w => exact atI_0
theorem count10 (l : List Nat) : Txt.count (st l) (st [10]) = ((cnt l : Nat) : Int) := by
  have e := PyProof.Rows.count_cnt (st l) 10
  rw [st_cps] at e
  refine Eq.trans e ?_
  clear e
  induction l with
  | nil => rfl
  | cons a l ih =>
    rw [PyProof.Rows.cnt_cons, ih]
    by_cases h : a = 10
    · rw [if_pos h, show Mini.K02.cnt (a :: l) = Mini.K02.cnt l + 1 by simp [Mini.K02.cnt, h]]
      omega
    · rw [if_neg h, show Mini.K02.cnt (a :: l) = Mini.K02.cnt l by simp [Mini.K02.cnt, h]]
      omega
/-- one of some, by a draw -/
theorem w_gap {b : Addr} {w v : List Nat} {n : Nat} {S : Sto} {Q : QD} {E : QX} (h : Bg b S) (hw : w ≠ []) (hv : v ≠ []) (wl : w.length ≤ 1000) (vl : v.length ≤ 1000) (q : ∀ g S', gapOk w g v → g.length ≤ 30 → Bg b S' → Sxb b S S' → Q (.str g) S') : (lvl prg (n + 2)).fn 4 [.ref b, .str w, .str v] S Q E := by
  refine ⟨rfl, ?_⟩
  unfold ir4
  walk_at "s"
  have rest : ∀ nd : Bool, need w v = nd → wpSs (lvl prg (n + 1)) (match ir4 with | .cons _ (.cons _ r) => r | _ => .nil) { nx := fun _ S' => Q .non S', rt := Q } (fun x _ S' => E x S') [some (.ref b), some (.str w), some (.str v), some (.str sg36), some (.bl nd), none] S := fun nd hnd => by
    dsimp only [ir4]
    walk_at "s"; walk_at "e"
    refine w_fdraw (m := 6) h (by omega) (by omega) fun r S1 hr h1 x1 => ?_
    have more : ∀ pk : Int, wpSs (lvl prg (n + 1)) (match ir4 with | .cons _ (.cons _ (.cons _ (.cons _ r))) => r | _ => .nil) { nx := fun _ S' => Q .non S', rt := Q } (fun x _ S' => E x S') [some (.ref b), some (.str w), some (.str v), some (.str sg36), some (.bl nd), some (.int pk)] S1 := fun pk => by
      dsimp only [ir4]
      walk_at "s"; walk_at "e"
      cases h5 : decide (pk < 5) with
      | true =>
        walk_at "e"
        walk_at "s"; walk_at "e"
        intro p hp
        refine w_fdraw (m := 4) (h1.new hp) (by omega) (by omega) fun r S2 hr h2 x2 => ?_
        have hp2 := x2 _ _ (h1.ne hp) (Sto.upd_same (S := S1) (a := p))
        simp only [hp2]
        have x : Sxb b S S2 := (x1.trans (Sx.new hp).b).trans x2
        have out : ∀ g : List Nat, gpB false g = true → g ≠ [] → (∀ c r, g = c :: r → c = 10 ∨ c = 32 ∨ c = 35) → g.length ≤ 30 → Q (.str g) S2 := fun g e1 e2 e3 e4 => q g S2 ⟨gp_of e1, fun e => absurd e e2, e3⟩ e4 h2 x
        rcases r with _ | _ | _ | _ | r
        · exact ⟨_, rfl, out [32] (by decide) (by simp) (fun c r e => by cases e; simp) (by decide)⟩
        · exact ⟨_, rfl, out [32, 32, 32] (by decide) (by simp) (fun c r e => by cases e; simp) (by decide)⟩
        · exact ⟨_, rfl, out [10] (by decide) (by simp) (fun c r e => by cases e; simp) (by decide)⟩
        · exact ⟨_, rfl, out [32, 10, 32] (by decide) (by simp) (fun c r e => by cases e; simp) (by decide)⟩
        · omega
      | false =>
        walk_at "e"
        walk_at "s"
        walk_at "s"; walk_at "e"
        intro p hp
        refine w_fdraw (m := 3) (h1.new hp) (by omega) (by omega) fun r S2 hr h2 x2 => ?_
        have hp2 := x2 _ _ (h1.ne hp) (Sto.upd_same (S := S1) (a := p))
        simp only [hp2]
        have x : Sxb b S S2 := (x1.trans (Sx.new hp).b).trans x2
        have snd : ∀ (g0 : List Nat), g0.length ≤ 14 → g0 ≠ [] → (∀ c r, g0 = c :: r → c = 10 ∨ c = 32 ∨ c = 35) → gpB false (g0 ++ [10]) = true → ∀ Q' : QD, (∀ g S', gapOk w g v → g.length ≤ 30 → Bg b S' → Sxb b S S' → Q' (.str g) S') → ∀ p2, S2 p2 = none → (lvl prg (n + 1)).fn 2 [.ref b, .int 4] (S2.upd p2 (.lst [.str [], .str [32, 32], .str [10], .str [35, 32, 98, 10, 32]])) (fun y S' => ixW (.ref p2) y S' (fun z S' => binW .add (.str (g0 ++ [10])) z S' Q')) (fun x S' => E x S') := fun g0 hl h0 hc hg Q' q' p2 hp2 => by
          refine w_fdraw (m := 4) (h2.new hp2) (by omega) (by omega) fun r S3 hr h3 x3 => ?_
          have hp3 := x3 _ _ (h2.ne hp2) (Sto.upd_same (S := S2) (a := p2))
          have xx : Sxb b S S3 := (x.trans (Sx.new hp2).b).trans x3
          have gg : ∀ e : List Nat, gpB false e = true → e.length ≤ 5 → Q' (.str (g0 ++ [10] ++ e)) S3 := fun e he hle => by
            have cat : ∀ (a e : List Nat) (f : Bool), gpB f (a ++ [10]) = true → gpB false e = true → gpB f (a ++ [10] ++ e) = true := fun a => by
              induction a with
              | nil => intro e f h1 h2; simpa [gpB] using h2
              | cons y a ih =>
                intro e f h1 h2
                simp only [List.cons_append, gpB] at h1 ⊢
                split
                · rename_i hy; rw [if_pos hy] at h1; simpa using ih e false h1 h2
                · rename_i hy
                  rw [if_neg hy] at h1
                  split
                  · rename_i hf; rw [if_pos hf] at h1; simpa using ih e true h1 h2
                  · rename_i hf
                    rw [if_neg hf] at h1
                    split
                    · rename_i h35; rw [if_pos h35] at h1; simpa using ih e true h1 h2
                    · rename_i h35
                      rw [if_neg h35] at h1
                      split
                      · rename_i h32; rw [if_pos h32] at h1; simpa using ih e false h1 h2
                      · rename_i h32; rw [if_neg h32] at h1; cases h1
            refine q' _ S3 ⟨gp_of (cat g0 e false hg he), fun e => (by simp at e), fun c r e => ?_⟩ (by simp only [List.length_append, List.length_cons, List.length_nil]; omega) h3 xx
            cases g0 with
            | nil => exact absurd rfl h0
            | cons y g0 => cases e; exact hc _ _ rfl
          have room : ∀ e : List Nat, e.length ≤ 5 → (g0 ++ [10]).length + e.length ≤ sizeLine := fun e he => of_eq_true (sz_le (by simp only [List.length_append, List.length_cons, List.length_nil]; omega))
          unfold ixW
          simp only [hp3]
          rcases r with _ | _ | _ | _ | r
          · exact ⟨_, rfl, room [] (by decide), gg [] (by decide) (by decide)⟩
          · exact ⟨_, rfl, room [32, 32] (by decide), gg [32, 32] (by decide) (by decide)⟩
          · exact ⟨_, rfl, room [10] (by decide), gg [10] (by decide) (by decide)⟩
          · exact ⟨_, rfl, room [35, 32, 98, 10, 32] (by decide), gg [35, 32, 98, 10, 32] (by decide) (by decide)⟩
          · omega
        rcases r with _ | _ | _ | r
        · refine ⟨_, rfl, ?_⟩
          walk_at "e"
          exact snd [35] (by decide) (by simp) (fun c r e => by cases e; simp) (by decide) Q q
        · refine ⟨_, rfl, ?_⟩
          walk_at "e"
          exact snd [32, 35, 32, 59, 32, 41, 32, 36] (by decide) (by simp) (fun c r e => by cases e; simp) (by decide) Q q
        · refine ⟨_, rfl, ?_⟩
          walk_at "e"
          exact snd [35, 32, 108, 101, 116, 32, 120, 32, 63] (by decide) (by simp) (fun c r e => by cases e; simp) (by decide) Q q
        · omega
    walk_at "s"; walk_at "e"
    cases h2 : decide ((r : Int) < 2) with
    | false =>
      walk_at "e"
      walk_at "s"
      exact more _
    | true =>
      walk_at "e"
      cases nd with
      | true =>
        walk_at "e"
        walk_at "s"
        exact more _
      | false =>
        walk_at "e"
        walk_at "s"; walk_at "e"
        exact q [] S1 ⟨Gp.nil, fun _ => hnd, fun c r e => (by cases e)⟩ (by decide) h1 x1
  walk_at "e"
  walk_at "s"; walk_at "e"
  refine ⟨of_eq_true (sz_le (by omega)), _, atI_neg1 hw, ?_⟩
  rw [aln_or]
  cases n1 : aln (w.getLastD 0) with
  | false =>
    walk_at "e"
    exact rest false (by rw [need, n1]; rfl)
  | true =>
    walk_at "e"
    refine ⟨of_eq_true (sz_le (by omega)), _, atI_hd hv, ?_⟩
    rw [aln_or]
    cases n2 : aln (v.headD 0) with
    | false =>
      walk_at "e"
      exact rest false (by rw [need, n1, n2]; rfl)
    | true =>
      walk_at "e"
      refine ⟨of_eq_true (sz_le (by omega)), _, atI_hd hw, of_eq_true (sz_le (by decide)), ?_⟩
      rw [cut26a, digL_c]
      cases n3 : dig (w.headD 0) with
      | false =>
        walk_at "e"
        exact rest true (by rw [need, n1, n2, n3]; rfl)
      | true =>
        walk_at "e"
        refine ⟨of_eq_true (sz_le (by omega)), _, atI_hd hv, of_eq_true (sz_le (by decide)), ?_⟩
        rw [cut26b, lowL_c]
        cases n4 : low (v.headD 0) with
        | false =>
          walk_at "e"
          exact rest true (by rw [need, n1, n2, n3, n4]; rfl)
        | true =>
          walk_at "e"
          exact rest false (by rw [need, n1, n2, n3, n4]; rfl)
end K02
end Mini
end L2
namespace L2
namespace Mini
namespace K02
open PySem PySem.Spec PyProof.Rows
local macro_rules | `(tactic| walk_at "s") => `(tactic| first | with_reducible refine st_set ?_ | with_reducible refine st_ife ?_ | with_reducible refine st_ret ?_ | with_reducible refine st_ex ?_ | with_reducible refine st_unp ?_ | with_reducible refine st_unpl ?_ | with_reducible refine st_unpa ?_ | with_reducible refine st_aug ?_ | with_reducible refine st_for ?_ | with_reducible refine st_whl ?_ | with_reducible refine st_nil ?_ | with_reducible refine st_setix ?_ | with_reducible refine st_raise ?_ | with_reducible refine st_try ?_ | with_reducible refine st_setat ?_ | with_reducible refine st_augat ?_ | with_reducible refine st_pass ?_ | with_reducible refine st_brk ?_ | with_reducible refine st_cnt ?_)
local macro_rules | `(tactic| walk_at "e") => `(tactic| try simp only [fget, fput, eq_self, Nat.reduceEqDiff, and_true, Int.reduceBEq, wpC, goW, List.map_cons, List.map_nil, deq, deqs, List.any_cons, List.any_nil, slW, cut_1, Int.cast_ofNat_Int, Int.natCast_zero, Int.natCast_one, Int.reduceLE, Int.reduceLT, Int.reduceNeg, Int.reduceAdd, Int.reduceSub, decide_true, decide_false, inW_chr, List.contains_cons, List.contains_nil, Bool.or_true, Bool.true_or, Bool.or_false, Bool.false_or, gd, gds, List.all_cons, List.all_nil, Nat.reduceLT, List.zip_cons_cons, List.zip_nil_left, List.foldl_cons, List.foldl_nil, wpT, wpE, wpEs, wpO, wpI, env0, Env.get, List.map, List.length, List.replicate, List.getElem?_cons_zero, List.getElem?_cons_succ, List.nil_append, List.cons_append, List.append_nil, tru, isiW, cmpW, List.set, Nat.reduceSub, Nat.reduceAdd, Bool.not_true, Bool.not_false, Bool.false_eq_true, if_true, if_false, reduceIte, ixW, biW, bmTy, augW, tgW, newW, wpPs, dmerge, sqW_t, sqW_s, binW_ai, binW_si, binW_at, binW_as, binW_mi, binW_di, binW_mo, atI_0, atI_1, atI_2, ex_some, eqW_str, eqW_int, sz0, sz1, sz2, sz3, sz4, sz5, sz6, sz7, sz8, sz9, sz10, sz11, sz12, sz13, sz14, true_and, Bool.false_xor, Bool.true_xor, lb_cc, lb_nc, lb_cn, lb_nn, Nat.reduceBEq, Bool.and_true, Bool.true_and, Bool.false_and, Bool.and_false, beq_self_eq_true, binW_ms])
local macro_rules | `(tactic| walk_at "r") => `(tactic| ((try walk_at "s"); walk_at "e"; repeat (walk_at "s"; walk_at "e")))
local macro_rules | `(tactic| walk_at "w") => `(tactic| simp only [wpSs, wpS, wpT, wpE, wpEs, wpO, wpI, env0, Env.get, List.map, List.length, List.replicate, List.getElem?_cons_zero, List.getElem?_cons_succ, List.nil_append, List.cons_append, List.append_nil, tru, isiW, cmpW, List.set, Nat.reduceSub, Nat.reduceAdd, Bool.not_true, Bool.not_false, Bool.false_eq_true, if_true, if_false, reduceIte, ixW, biW, bmTy, sqW_t, sqW_s, binW_ai, binW_si, binW_at, binW_as, binW_mi, binW_di, binW_mo, atI_0, atI_1, atI_2, ex_some, eqW_str, eqW_int, sz0, sz1, sz2, sz3, sz4, sz5, sz6, sz7, sz11, true_and, Bool.false_xor, Bool.true_xor, lb_cc, lb_nc, lb_cn, lb_nn, Nat.reduceBEq, Bool.and_true, Bool.true_and, Bool.false_and, Bool.and_false, beq_self_eq_true])
local macro_rules | `(tactic| walk_at "q") => `(tactic| refine eqW_of rfl rfl (Nat.le_of_ble_eq_true rfl) ?_)
local macro_rules | `(tactic| walk_at "g") => `(tactic| (walk_at "r"; repeat (walk_at "q"; walk_at "r")))
/-! ### words, the text -/
theorem w_word {b : Addr} {n : Nat} {S : Sto} {Q : QD} {E : QX} (h : Bg b S) (q : ∀ w S', Vw w → w.length ≤ 12 → Bg b S' → Sxb b S S' → Q (.str w) S') : (lvl prg (n + 4)).fn 6 [.ref b] S Q E := by
  refine ⟨rfl, ?_⟩
  have tl : ∀ G K X σ S', wpSs G ir6 K X σ S' = wpSs G (.cons (.set 1 (.call 2 (.cons (.var 0) (.cons (.lit (.int 4)) .nil)))) (match ir6 with | .cons _ r => r | _ => .nil)) K X σ S' := fun _ _ _ _ _ => rfl
  rw [tl]
  walk_at "s"; walk_at "e"
  refine w_fdraw (m := 4) (n := n + 2) h (by omega) (by omega) fun pk S1 hpk h1 x1 => ?_
  have pick : ∀ (row : List D) (Q' : QD), 0 < row.length → row.length < 1000000 → (∀ d S', d ∈ row → Bg b S' → Sxb b S S' → Q' d S') → ∀ p, S1 p = none → (lvl prg (n + 3)).fn 3 [.ref b, .ref p] (S1.upd p (.lst row)) Q' (fun x S' => E x S') := fun row Q' h0 hm q' p hp =>
    w_fone (n := n + 1) (h1.new hp) Sto.upd_same (h1.ne hp) h0 hm fun d S2 hd h2 x2 => q' d S2 hd h2 ((x1.trans (Sx.new hp).b).trans x2)
  dsimp only [ir6]
  walk_at "s"; walk_at "e"
  cases e0 : ((pk : Int) == 0) with
  | true =>
    walk_at "e"
    walk_at "s"; walk_at "e"
    refine pick [.str [92], .str [46], .str [40], .str [41], .str [61]] _ (by decide) (by decide) fun d S2 hd h2 x2 => ?_
    simp only [List.mem_cons, List.not_mem_nil, or_false] at hd
    rcases hd with rfl | rfl | rfl | rfl | rfl <;> exact q _ S2 (.sign (by decide)) (by decide) h2 x2
  | false =>
    walk_at "e"
    walk_at "s"
    walk_at "s"; walk_at "e"
    cases e1 : ((pk : Int) == 1) with
    | true =>
      walk_at "e"
      walk_at "s"; walk_at "e"
      refine pick [.str [48], .str [55], .str [49, 48], .str [53, 57], .str [54, 48]] _ (by decide) (by decide) fun d S2 hd h2 x2 => ?_
      simp only [List.mem_cons, List.not_mem_nil, or_false] at hd
      rcases hd with rfl | rfl | rfl | rfl | rfl <;> exact q _ S2 (.num (by decide)) (by decide) h2 x2
    | false =>
      walk_at "e"
      walk_at "s"
      walk_at "s"; walk_at "e"
      cases e2 : ((pk : Int) == 2) with
      | true =>
        walk_at "e"
        walk_at "s"; walk_at "e"
        refine pick [.str [108, 101, 116], .str [105, 110]] _ (by decide) (by decide) fun d S2 hd h2 x2 => ?_
        simp only [List.mem_cons, List.not_mem_nil, or_false] at hd
        rcases hd with rfl | rfl <;> exact q _ S2 (.name (by decide) (by decide) (by decide)) (by decide) h2 x2
      | false =>
        walk_at "e"
        walk_at "s"
        walk_at "s"; walk_at "e"
        refine w_fdraw (m := 26) (n := n + 2) h1 (by omega) (by omega) fun r S2 hr h2 x2 => ?_
        have hlr : r < lowL.length := by simpa using hr
        refine ⟨of_eq_true (sz_le (by decide)), lowL[r], ?_, ?_⟩
        · show atI lowL (r : Int) = _
          rw [atI_nat, List.getElem?_eq_getElem hlr]
        have hlow : low lowL[r] = true := by rw [← lowL_c]; exact List.contains_iff_mem.mpr (List.getElem_mem hlr)
        generalize lowL[r] = a at hlow
        walk_at "s"; walk_at "e"
        refine w_fdraw (m := 12) (n := n + 2) h2 (by omega) (by omega) fun k S3 hk h3 x3 => ?_
        refine ⟨by omega, by omega, ?_⟩
        have hl : (rngD 0 ((k : Int)).toNat).length = k := by simp [rngD]
        have loop : ∀ (ds : List D) (rr : List Nat) (o3 : Option D) (S4 : Sto), rr.all aln = true → rr.length + ds.length ≤ 11 → Bg b S4 → Sxb b S S4 →
            forW (fun _ => True) (.nm 3) (fun K σ S => wpSs (lvl prg (n + 3)) (forBody ir6) K (fun x _ S' => E x S') σ S) { nx := fun σ' S' => wpSs (lvl prg (n + 3)) (.cons (.ret (.var 2)) .nil) { nx := fun _ S' => Q .non S', rt := Q } (fun x _ S' => E x S') σ' S', rt := Q } ds [some (.ref b), some (.int (pk : Int)), some (.str (a :: rr)), o3] S4 := by
          intro ds
          induction ds with
          | nil =>
            intro rr o3 S4 hall hlen h4 x4
            refine ⟨True.intro, ?_⟩
            walk_at "s"; walk_at "e"
            exact q _ S4 (.name hlow hall (by simpa using hlen)) (by simp only [List.length_cons, List.length_nil] at hlen ⊢; omega) h4 x4
          | cons d ds ih =>
            intro rr o3 S4 hall hlen h4 x4
            simp only [List.length_cons] at hlen
            refine forW_step True.intro rfl fun K' knx _ krt _ => ?_
            dsimp only [forBody, ir6]
            walk_at "s"; walk_at "e"
            refine w_fdraw (m := 36) (n := n + 2) h4 (by omega) (by omega) fun s S5 hs h5 x5 => ?_
            have hls : s < sg36.length := by simpa using hs
            refine ⟨of_eq_true (sz_le (by decide)), sg36[s], ?_, of_eq_true (sz_le (by first | omega | (simp only [List.length_cons]; omega))), ?_⟩
            · show atI sg36 (s : Int) = _
              rw [atI_nat, List.getElem?_eq_getElem hls]
            have hal : aln sg36[s] = true := by
              rw [← alnL_c]
              exact List.contains_iff_mem.mpr (List.getElem_mem hls)
            walk_at "s"
            exact knx _ _ (ih (rr ++ [sg36[s]]) _ S5 (by rw [List.all_append, hall]; simp [hal]) (by simp only [List.length_append, List.length_cons, List.length_nil]; omega) h5 (x4.trans x5))
        exact loop _ [] none S3 rfl (by rw [hl]; simp only [List.length_nil]; omega) h3 ((x1.trans x2).trans x3)
/-! the text -/
def chS : List Pw → Option (List Nat) → Prop
  | [], _ => True
  | [p], nx => (match nx with | none => p.2 = [] | some v => gapOk p.1 p.2 v)
  | p :: q :: P, nx => gapOk p.1 p.2 q.1 ∧ chS (q :: P) nx
theorem chS_snoc : ∀ {P : List Pw} {w g : List Nat} {nx : Option (List Nat)}, chS P (some w) → (match nx with | none => g = [] | some v => gapOk w g v) → chS (P ++ [(w, g)]) nx
  | [], w, g, nx, _, h => h
  | [p], w, g, nx, h1, h => ⟨h1, h⟩
  | p :: q :: P, w, g, nx, h1, h => ⟨h1.1, chS_snoc (P := q :: P) h1.2 h⟩
theorem chS_ch : ∀ {P : List Pw}, chS P none → ch P
  | [], _ => trivial
  | [p], h => h
  | p :: q :: P, h => ⟨h.1, chS_ch (P := q :: P) h.2⟩
theorem flat_snoc : ∀ (P : List Pw) (w g : List Nat), flat (P ++ [(w, g)]) = flat P ++ w ++ g
  | [], w, g => by simp [flat]
  | p :: P, w, g => by simp only [List.cons_append, flat, flat_snoc P w g, List.append_assoc]
theorem lns_snoc : ∀ (P : List Pw) (a : Nat) (w g : List Nat), lns a (P ++ [(w, g)]) = lns a P ++ [a + tot P]
  | [], a, w, g => by simp [lns, tot]
  | p :: P, a, w, g => by simp [lns, lns_snoc P, tot, Nat.add_assoc]
theorem tot_snoc : ∀ (P : List Pw) (w g : List Nat), tot (P ++ [(w, g)]) = tot P + cnt g
  | [], w, g => by simp [tot]
  | p :: P, w, g => by simp [tot, tot_snoc P w g, Nat.add_assoc]
theorem cnt_flat : ∀ (P : List Pw), (∀ p ∈ P, cnt p.1 = 0) → cnt (flat P) = tot P
  | [], _ => rfl
  | p :: P, h => by
    have h1 := h p List.mem_cons_self
    have h2 := cnt_flat P fun q hq => h q (List.mem_cons_of_mem _ hq)
    simp only [flat, tot, cnt_app, h1, h2]
    omega
theorem lns_len : ∀ (P : List Pw) (a : Nat), (lns a P).length = P.length
  | [], _ => rfl
  | p :: P, a => by simp only [lns, List.length_cons, lns_len P]
abbrev ntD (l : List Nat) : List D := l.map fun (n : Nat) => D.int (n : Int)
/-- what is known of a word ahead of its laying -/
structure Wo (w : List Nat) : Prop where
  ne : w ≠ []
  len : w.length ≤ 40
  cn : cnt w = 0
theorem w_laid {b a : Addr} {ws : List (List Nat)} {n : Nat} {S : Sto} {Q : QD} {E : QX} (h : Bg b S) (ha : S a = some (.lst (ws.map .str))) (ne : a ≠ b) (hw : ∀ w ∈ ws, Wo w) (hn : ws.length ≤ 50)
    (q : ∀ (ld tr : List Nat) (P : List Pw) (l : Addr) (S' : Sto), Gp ld → Tr tr → ch P → P.map (·.1) = ws → (ld ++ (flat P ++ tr)).length ≤ 10000 → S' l = some (.lst (ntD (lns (1 + cnt ld) P) ++ [.int ((1 + cnt (ld ++ (flat P ++ tr)) : Nat) : Int)])) → l ≠ b → Bg b S' → Sxb b S S' → Q (.tup [.str (ld ++ (flat P ++ tr)), .ref l]) S') : (lvl prg (n + 4)).fn 5 [.ref b, .ref a] S Q E := by
  refine ⟨rfl, ?_⟩
  have tl : ∀ G K X σ S', wpSs G ir5 K X σ S' = wpSs G (.cons (.set 2 (.ix (.lst (.cons (.lit (.str [])) (.cons (.lit (.str [10])) (.cons (.lit (.str [32])) (.cons (.lit (.str [35, 32, 97, 10])) .nil))))) (.call 2 (.cons (.var 0) (.cons (.lit (.int 4)) .nil))))) (.cons (.set 3 (.lst .nil)) (.cons (.for_ (.nm 4) (.rng (.bi .len (.cons (.var 1) .nil))) (forBody ir5)) (match ir5 with | .cons _ (.cons _ (.cons _ r)) => r | _ => .nil)))) K X σ S' := fun _ _ _ _ _ => rfl
  rw [tl]
  walk_at "s"; walk_at "e"
  intro p hp
  have nap : a ≠ p := new_ne ha hp
  refine w_fdraw (m := 4) (n := n + 2) (h.new hp) (by omega) (by omega) fun r S1 hr h1 x1 => ?_
  have hp1 := x1 _ _ (h.ne hp) (Sto.upd_same (S := S) (a := p))
  simp only [hp1]
  have xs1 : Sxb b S S1 := (Sx.new hp).b.trans x1
  have ha1 := xs1 _ _ ne ha
  have main : ∀ ld : List Nat, gpB false ld = true → ld.length ≤ 4 → wpSs (lvl prg (n + 3)) (.cons (.set 3 (.lst .nil)) (.cons (.for_ (.nm 4) (.rng (.bi .len (.cons (.var 1) .nil))) (forBody ir5)) (match ir5 with | .cons _ (.cons _ (.cons _ r)) => r | _ => .nil))) { nx := fun _ S' => Q .non S', rt := Q } (fun x _ S' => E x S') [some (.ref b), some (.ref a), some (.str ld), none, none] S1 := fun ld hld hldl => by
    have gld := gp_of hld
    walk_at "s"; walk_at "e"
    intro l hl
    have nal : a ≠ l := new_ne ha1 hl
    have nlb : l ≠ b := h1.ne hl
    walk_at "s"; walk_at "e"
    have ha2 : (S1.upd l (.lst [])) a = some (.lst (ws.map .str)) := by rw [Sto.upd_ne nal]; exact ha1
    simp only [ha2]
    refine ⟨by simp only [List.length_map]; omega, by simp only [List.length_map]; omega, ?_⟩
    have loop : ∀ (m k : Nat) (P : List Pw) (o4 : Option D) (S2 : Sto), k + m = ws.length → P.length = k → P.map (·.1) = ws.take k → chS P ws[k]? → (ld ++ flat P).length ≤ 4 + 70 * k → S2 l = some (.lst (ntD (lns (1 + cnt ld) P))) → Bg b S2 → Sxb b S S2 →
        forW (fun _ => True) (.nm 4) (fun K σ S => wpSs (lvl prg (n + 3)) (forBody ir5) K (fun x _ S' => E x S') σ S) { nx := fun σ' S' => wpSs (lvl prg (n + 3)) (match ir5 with | .cons _ (.cons _ (.cons _ r)) => r | _ => .nil) { nx := fun _ S' => Q .non S', rt := Q } (fun x _ S' => E x S') σ' S', rt := Q } ((List.range' k m).map fun (j : Nat) => D.int (j : Int)) [some (.ref b), some (.ref a), some (.str (ld ++ flat P)), some (.ref l), o4] S2 := by
      intro m
      induction m with
      | zero =>
        intro k P o4 S2 hk hPl hP hc hlen h3 h4 x4
        refine ⟨True.intro, ?_⟩
        have hk' : k = ws.length := by omega
        subst hk'
        rw [List.take_length] at hP
        rw [List.getElem?_eq_none (Nat.le_refl _)] at hc
        dsimp only [ir5]
        walk_at "s"; walk_at "e"
        intro p2 hp2
        refine w_fdraw (m := 4) (n := n + 2) (h4.new hp2) (by omega) (by omega) fun r S3 hr h5 x5 => ?_
        have hp3 := x5 _ _ (h4.ne hp2) (Sto.upd_same (S := S2) (a := p2))
        simp only [hp3]
        have nl2 : l ≠ p2 := new_ne h3 hp2
        have h3' : S3 l = some (.lst (ntD (lns (1 + cnt ld) P))) := x5 _ _ nlb (by rw [Sto.upd_ne nl2]; exact h3)
        have xx : Sxb b S S3 := (x4.trans (Sx.new hp2).b).trans x5
        have fin : ∀ tr : List Nat, Tr tr → tr.length ≤ 6 → wpSs (lvl prg (n + 3)) (match ir5 with | .cons _ (.cons _ (.cons _ (.cons _ r))) => r | _ => .nil) { nx := fun _ S' => Q .non S', rt := Q } (fun x _ S' => E x S') [some (.ref b), some (.ref a), some (.str (ld ++ flat P ++ tr)), some (.ref l), o4] S3 := fun tr htr htl => by
          dsimp only [ir5]
          walk_at "s"; walk_at "e"
          unfold bmW
          dsimp only
          rw [count10]
          walk_at "e"
          rw [show (1 + ((cnt (ld ++ flat P ++ tr) : Nat) : Int)) = ((1 + cnt (ld ++ (flat P ++ tr)) : Nat) : Int) by rw [List.append_assoc]; omega, List.append_assoc]
          intro p3 hp3
          have nl3 : l ≠ p3 := new_ne h3' hp3
          refine binW_ll (xs := ntD (lns (1 + cnt ld) P)) (by rw [Sto.upd_ne nl3]; exact h3') Sto.upd_same (by simp only [List.length_map, List.length_cons, List.length_nil]; have := lns_len P (1 + cnt ld); omega) fun p4 hp4 => ?_
          have h5' := (h5.new (x := .lst [.int ((1 + cnt (ld ++ (flat P ++ tr)) : Nat) : Int)]) hp3)
          exact q ld tr P p4 _ gld htr (chS_ch hc) hP (by simp only [List.length_append] at hlen ⊢; omega) Sto.upd_same (h5'.ne hp4) (h5'.new hp4) ((xx.trans (Sx.new hp3).b).trans (Sx.new hp4).b)
        rcases r with _ | _ | _ | _ | r
        · exact ⟨_, rfl, of_eq_true (sz_le (by simp only [List.length_nil]; omega)), fin [] ⟨rfl, fun c r e => by cases e⟩ (by decide)⟩
        · exact ⟨_, rfl, of_eq_true (sz_le (by simp only [List.length_cons, List.length_nil]; omega)), fin [10] ⟨by decide, fun c r e => by cases e; simp⟩ (by decide)⟩
        · exact ⟨_, rfl, of_eq_true (sz_le (by simp only [List.length_cons, List.length_nil]; omega)), fin [32, 35, 32, 101, 110, 100] ⟨by decide, fun c r e => by cases e; simp⟩ (by decide)⟩
        · exact ⟨_, rfl, of_eq_true (sz_le (by simp only [List.length_cons, List.length_nil]; omega)), fin [10, 10] ⟨by decide, fun c r e => by cases e; simp⟩ (by decide)⟩
        · omega
      | succ m ih =>
        intro k P o4 S2 hk hPl hP hc hlen h3 h4 x4
        have hkl : k < ws.length := by omega
        have hwk := hw ws[k] (List.getElem_mem hkl)
        have ha4 := x4 _ _ ne ha
        rw [List.getElem?_eq_getElem hkl] at hc
        simp only [List.range'_succ, List.map_cons]
        refine forW_step True.intro rfl fun K' knx _ krt _ => ?_
        dsimp only [forBody, ir5]
        walk_at "s"; walk_at "e"
        refine ⟨⟨_, h3⟩, ?_⟩
        unfold bmW
        dsimp only
        rw [count10]
        walk_at "e"
        simp only [h3]
        have hcn : ∀ p ∈ P, cnt p.1 = 0 := fun p hp => by
          have : p.1 ∈ ws.take k := by rw [← hP]; exact List.mem_map_of_mem hp
          exact (hw p.1 (List.mem_of_mem_take this)).cn
        have hcf : cnt (ld ++ flat P) = cnt ld + tot P := by rw [cnt_app, cnt_flat P hcn]
        refine ⟨of_eq_true (sz_lt (by simp only [List.length_map]; have := lns_len P (1 + cnt ld); omega)), ?_⟩
        rw [show (ntD (lns (1 + cnt ld) P) ++ [D.int (1 + ((cnt (ld ++ flat P) : Nat) : Int))]) = ntD (lns (1 + cnt ld) (P ++ [(ws[k], ([] : List Nat))])) by rw [lns_snoc, hcf]; simp; omega]
        obtain ⟨S3, hS3⟩ : ∃ S3, S3 = S2.upd l (.lst (ntD (lns (1 + cnt ld) (P ++ [(ws[k], ([] : List Nat))])))) := ⟨_, rfl⟩
        have g3 : S3 l = some (.lst (ntD (lns (1 + cnt ld) (P ++ [(ws[k], ([] : List Nat))])))) := by rw [hS3, Sto.upd_same]
        have g4 : Bg b S3 := by
          obtain ⟨r, s, c, v, e⟩ := h4
          exact ⟨r, s, c, v, by rw [hS3, Sto.upd_ne (Ne.symm nlb)]; exact e⟩
        have ga : S3 a = some (.lst (ws.map .str)) := by rw [hS3, Sto.upd_ne nal]; exact ha4
        have gx : ∀ c d, c ≠ b → S c = some d → S3 c = some d := fun c d n1 hc => by
          have : c ≠ l := new_ne (xs1 _ _ n1 hc) hl
          rw [hS3, Sto.upd_ne this]
          exact x4 _ _ n1 hc
        rw [← hS3]
        clear hS3
        have hwl := hwk.len
        have hatk : atI (ws.map D.str) (k : Int) = some (.str ws[k]) := by rw [atI_nat, List.getElem?_map, List.getElem?_eq_getElem hkl]; rfl
        walk_at "s"; walk_at "e"
        simp only [ga]
        refine ⟨_, hatk, ?_⟩
        walk_at "e"
        refine ⟨of_eq_true (sz_le (by omega)), ?_⟩
        walk_at "s"; walk_at "e"
        simp only [ga, List.length_map]
        have fin : ∀ (g : List Nat) (S5 : Sto), (match ws[k + 1]? with | none => g = [] | some v => gapOk ws[k] g v) → g.length ≤ 30 → Bg b S5 → Sxb b S3 S5 → K'.nx [some (.ref b), some (.ref a), some (.str (ld ++ flat P ++ ws[k] ++ g)), some (.ref l), some (.int (k : Int))] S5 := fun g S5 hg hgl h5 x5 => by
          refine knx _ _ ?_
          have e1 : ld ++ flat P ++ ws[k] ++ g = ld ++ flat (P ++ [(ws[k], g)]) := by rw [flat_snoc]; simp [List.append_assoc]
          rw [e1]
          refine ih (k + 1) (P ++ [(ws[k], g)]) _ S5 (by omega) (by simp [hPl]) ?_ (chS_snoc hc hg) ?_ ?_ h5 (fun c d n1 hc => x5 _ _ n1 (gx c d n1 hc))
          · rw [List.map_append, hP, List.map_cons, List.map_nil, List.take_add_one, List.getElem?_eq_getElem hkl]
            rfl
          · rw [flat_snoc]
            simp only [List.length_append] at hlen ⊢
            omega
          · rw [x5 _ _ nlb g3, lns_snoc, lns_snoc]
        by_cases hk1 : k + 1 < ws.length
        · rw [decide_eq_true (show ((k : Int) + 1 < (ws.length : Int)) by omega)]
          walk_at "e"
          walk_at "s"; walk_at "e"
          simp only [ga]
          refine ⟨_, hatk, ?_⟩
          refine ⟨.str ws[k + 1], by rw [show ((k : Int) + 1) = ((k + 1 : Nat) : Int) by omega, atI_nat, List.getElem?_map, List.getElem?_eq_getElem hk1]; rfl, ?_⟩
          have hw1 := hw ws[k + 1] (List.getElem_mem hk1)
          have hl1 := hw1.len
          refine w_gap (n := n + 1) g4 hwk.ne hw1.ne (by omega) (by omega) fun g S5 hg hgl h5 x5 => ?_
          walk_at "e"
          refine ⟨of_eq_true (sz_le (by simp only [List.length_append] at hlen ⊢; omega)), ?_⟩
          have ho := fin g S5 (by rw [List.getElem?_eq_getElem hk1]; exact hg) hgl h5 x5
          walk_at "s"
          walk_at "s"
          exact ho
        · rw [decide_eq_false (show ¬ ((k : Int) + 1 < (ws.length : Int)) by omega)]
          have ho := fin [] S3 (by rw [List.getElem?_eq_none (by omega)]) (by decide) g4 (Sxb.refl b S3)
          rw [List.append_nil] at ho
          walk_at "e"
          walk_at "s"
          walk_at "s"
          exact ho
    have := loop ws.length 0 [] none (S1.upd l (.lst [])) (by omega) rfl (by simp) trivial (by simp [flat]; omega) (by rw [Sto.upd_same]; rfl) (h1.new hl) (xs1.trans (Sx.new hl).b)
    rw [show (ld ++ flat []) = ld by simp [flat]] at this
    rw [show rngD 0 (((ws.map D.str).length : Int)).toNat = (List.range' 0 ws.length).map fun (j : Nat) => D.int (j : Int) from by simp [rngD, List.range_eq_range']]
    exact this
  rcases r with _ | _ | _ | _ | r
  · exact ⟨_, rfl, main [] (by decide) (by decide)⟩
  · exact ⟨_, rfl, main [10] (by decide) (by decide)⟩
  · exact ⟨_, rfl, main [32] (by decide) (by decide)⟩
  · exact ⟨_, rfl, main [35, 32, 97, 10] (by decide) (by decide)⟩
  · omega
end K02
end Mini
end L2
namespace L2
namespace Mini
namespace K02
open PySem PySem.Spec PyProof.Rows
local macro_rules | `(tactic| walk_at "s") => `(tactic| first | with_reducible refine st_set ?_ | with_reducible refine st_ife ?_ | with_reducible refine st_ret ?_ | with_reducible refine st_ex ?_ | with_reducible refine st_unp ?_ | with_reducible refine st_unpl ?_ | with_reducible refine st_unpa ?_ | with_reducible refine st_aug ?_ | with_reducible refine st_for ?_ | with_reducible refine st_whl ?_ | with_reducible refine st_nil ?_ | with_reducible refine st_setix ?_ | with_reducible refine st_raise ?_ | with_reducible refine st_try ?_ | with_reducible refine st_setat ?_ | with_reducible refine st_augat ?_ | with_reducible refine st_pass ?_ | with_reducible refine st_brk ?_ | with_reducible refine st_cnt ?_)
local macro_rules | `(tactic| walk_at "e") => `(tactic| try simp only [fget, fput, eq_self, Nat.reduceEqDiff, and_true, Int.reduceBEq, wpC, goW, List.map_cons, List.map_nil, deq, deqs, List.any_cons, List.any_nil, slW, cut_1, Int.cast_ofNat_Int, Int.natCast_zero, Int.natCast_one, Int.reduceLE, Int.reduceLT, Int.reduceNeg, Int.reduceAdd, Int.reduceSub, decide_true, decide_false, inW_chr, List.contains_cons, List.contains_nil, Bool.or_true, Bool.true_or, Bool.or_false, Bool.false_or, gd, gds, List.all_cons, List.all_nil, Nat.reduceLT, List.zip_cons_cons, List.zip_nil_left, List.foldl_cons, List.foldl_nil, wpT, wpE, wpEs, wpO, wpI, env0, Env.get, List.map, List.length, List.replicate, List.getElem?_cons_zero, List.getElem?_cons_succ, List.nil_append, List.cons_append, List.append_nil, tru, isiW, cmpW, List.set, Nat.reduceSub, Nat.reduceAdd, Bool.not_true, Bool.not_false, Bool.false_eq_true, if_true, if_false, reduceIte, ixW, biW, bmTy, augW, tgW, newW, wpPs, dmerge, sqW_t, sqW_s, binW_ai, binW_si, binW_at, binW_as, binW_mi, binW_di, binW_mo, atI_0, atI_1, atI_2, ex_some, eqW_str, eqW_int, sz0, sz1, sz2, sz3, sz4, sz5, sz6, sz7, sz8, sz9, sz10, sz11, sz12, sz13, sz14, true_and, Bool.false_xor, Bool.true_xor, lb_cc, lb_nc, lb_cn, lb_nn, Nat.reduceBEq, Bool.and_true, Bool.true_and, Bool.false_and, Bool.and_false, beq_self_eq_true, binW_ms])
local macro_rules | `(tactic| walk_at "r") => `(tactic| ((try walk_at "s"); walk_at "e"; repeat (walk_at "s"; walk_at "e")))
local macro_rules | `(tactic| walk_at "w") => `(tactic| simp only [wpSs, wpS, wpT, wpE, wpEs, wpO, wpI, env0, Env.get, List.map, List.length, List.replicate, List.getElem?_cons_zero, List.getElem?_cons_succ, List.nil_append, List.cons_append, List.append_nil, tru, isiW, cmpW, List.set, Nat.reduceSub, Nat.reduceAdd, Bool.not_true, Bool.not_false, Bool.false_eq_true, if_true, if_false, reduceIte, ixW, biW, bmTy, sqW_t, sqW_s, binW_ai, binW_si, binW_at, binW_as, binW_mi, binW_di, binW_mo, atI_0, atI_1, atI_2, ex_some, eqW_str, eqW_int, sz0, sz1, sz2, sz3, sz4, sz5, sz6, sz7, sz11, true_and, Bool.false_xor, Bool.true_xor, lb_cc, lb_nc, lb_cn, lb_nn, Nat.reduceBEq, Bool.and_true, Bool.true_and, Bool.false_and, Bool.and_false, beq_self_eq_true])
local macro_rules | `(tactic| walk_at "q") => `(tactic| refine eqW_of rfl rfl (Nat.le_of_ble_eq_true rfl) ?_)
local macro_rules | `(tactic| walk_at "g") => `(tactic| (walk_at "r"; repeat (walk_at "q"; walk_at "r")))
/-! ### the law -/
theorem eqW_lst2 {S : Sto} {a b : Addr} {ds es : List D} {neg : Bool} {Q : QD} (h : rd S a = some ds) (h2 : rd S b = some es) (g : gds ds = true) (g2 : gds es = true) (hd : dds ds ≤ 100) (q : Q (.bl (neg ^^ deqs ds es)) S) : eqW (.ref a) (.ref b) neg S Q := by
  show ∃ r, Eqv S (.ref a) (.ref b) r ∧ Q (.bl (neg ^^ r)) S
  have e := Eqv.dat (PD.ref h (pds_of S g)) (PD.ref h2 (pds_of S g2)) (show eqRoom (.list (pdos ds)) (.list (pdos es)) by
    unfold eqRoom
    have := dds_pdo ds
    show min (PyData.depthAll (pdos ds) + 1) (PyData.depthAll (pdos es) + 1) ≤ 190
    omega)
  refine ⟨_, e, ?_⟩
  have : PyData.eqv (.list (pdos ds)) (.list (pdos es)) = deqs ds es := deqs_pdo ds es g g2
  rw [this]
  exact q
theorem tkD_ok : ∀ L : List (List Nat × Nat), (∀ t ∈ L, t.1.all (fun c => decide (c < 0x110000)) = true) → gds (L.map tkD) = true ∧ dds (L.map tkD) ≤ 2 ∧ deqs (L.map tkD) (L.map tkD) = true
  | [], _ => ⟨rfl, by simp [dds], rfl⟩
  | t :: L, h => by
    obtain ⟨h1, h2, h3⟩ := tkD_ok L fun x hx => h x (List.mem_cons_of_mem _ hx)
    have h4 := h t List.mem_cons_self
    refine ⟨?_, ?_, ?_⟩
    · simp only [List.map_cons, gds, gd, h1, h4]; rfl
    · simp only [List.map_cons, dds, dd]; omega
    · simp only [List.map_cons, deqs, deq, h3]; simp
theorem zl_zip : ∀ (P : List Pw) (a : Nat), zl a P = (P.map (·.1)).zip (lns a P)
  | [], _ => rfl
  | p :: P, a => by simp only [zl, lns, List.map_cons, List.zip_cons_cons, zl_zip P]
theorem lns_app : ∀ (P1 : List Pw) (a : Nat) (q : Pw) (P2 : List Pw), lns a (P1 ++ q :: P2) = lns a P1 ++ (a + tot P1) :: lns (a + tot P1 + cnt q.2) P2
  | [], a, q, P2 => by simp [lns, tot]
  | p :: P1, a, q, P2 => by simp only [List.cons_append, lns, lns_app P1, tot, Nat.add_assoc]
theorem Vw.wo {w : List Nat} (h : Vw w) (hl : w.length ≤ 12) : Wo w := ⟨by obtain ⟨a, r, rfl, _⟩ := h.head; simp, by omega, h.cnt⟩
theorem Vw.lt {w : List Nat} (h : Vw w) : w.all (fun c => decide (c < 0x110000)) = true := by
  cases h with
  | @sign c h =>
    simp only [sgn, List.contains_cons, List.contains_nil, Bool.or_false, Bool.or_eq_true, beq_iff_eq] at h
    rcases h with rfl | rfl | rfl | rfl | rfl <;> rfl
  | num h =>
    simp only [List.mem_cons, List.not_mem_nil, or_false] at h
    rcases h with rfl | rfl | rfl | rfl | rfl <;> rfl
  | @name a r h1 h2 _ =>
    have : (a :: r).all aln = true := by rw [List.all_cons, h2, aln, h1]; rfl
    rw [List.all_eq_true] at this ⊢
    exact fun c hc => decide_eq_true (aln_lt (this c hc))
abbrev oddL : List (List Nat) := [[97, 98, 99, 100, 101, 102, 103, 104, 105, 106, 107, 108, 109], List.replicate 40 97, [48, 49], [48, 48], [54, 49], [49, 48, 48], [57, 57, 57], [59], [36], [65], [95], [33], [38], [91], [47], [60], [43], [45]]
theorem odd_ok : ∀ w ∈ oddL, Bw w ∧ Wo w := by
  intro w hw
  simp only [oddL, List.mem_cons, List.not_mem_nil, or_false] at hw
  have wo : ∀ w : List Nat, w ≠ [] → w.length ≤ 40 → cnt w = 0 → Wo w := fun w a b c => ⟨a, b, c⟩
  rcases hw with rfl | rfl | rfl | rfl | rfl | rfl | rfl | rfl | rfl | rfl | rfl | rfl | rfl | rfl | rfl | rfl | rfl | rfl
  · exact ⟨bw_long (by decide) (by decide) (by decide), wo _ (by decide) (by decide) (by decide)⟩
  · exact ⟨bw_long (a := 97) (r := List.replicate 39 97) (by decide) (by decide) (by decide), wo _ (by decide) (by decide) (by decide)⟩
  · exact ⟨bw_num (by decide) (by decide) (by decide) (by decide) (by decide) (by decide), wo _ (by decide) (by decide) (by decide)⟩
  · exact ⟨bw_num (by decide) (by decide) (by decide) (by decide) (by decide) (by decide), wo _ (by decide) (by decide) (by decide)⟩
  · exact ⟨bw_num (by decide) (by decide) (by decide) (by decide) (by decide) (by decide), wo _ (by decide) (by decide) (by decide)⟩
  · exact ⟨bw_num (by decide) (by decide) (by decide) (by decide) (by decide) (by decide), wo _ (by decide) (by decide) (by decide)⟩
  · exact ⟨bw_num (by decide) (by decide) (by decide) (by decide) (by decide) (by decide), wo _ (by decide) (by decide) (by decide)⟩
  all_goals exact ⟨bw_sign (by decide) (by decide) (by decide) (by decide), wo _ (by decide) (by decide) (by decide)⟩
/-- behind the laying -/
abbrev aftB : Stms := match forBody ir8 with
  | .cons _ (.cons _ (.cons _ (.cons _ r))) => r
  | _ => .nil
theorem aft_ok {n : Nat} {b a : Addr} {v0 v1 v2 : D} {o6 o7 o8 o9 : Option D} {ws : List (List Nat)} {bad : Nat} {S : Sto} {K : En} {X : EX} (h : Bg b S) (ha : S a = some (.lst (ws.map .str))) (ne : a ≠ b) (hw : ∀ w ∈ ws, Wo w) (hn : ws.length ≤ 50)
    (hb : (bad = ws.length ∧ ∀ w ∈ ws, Vw w) ∨ (∃ W1 wb W2, ws = W1 ++ wb :: W2 ∧ bad = W1.length ∧ (∀ w ∈ W1, Vw w) ∧ Bw wb))
    (I : Sto → Prop) (hI : ∀ S', Sxb b S S' → I S') (q : ∀ o3 o4 o5 o6 o7 o8 o9 S', I S' → K.nx [some v0, some v1, some v2, o3, o4, o5, o6, o7, o8, o9] S') :
    wpSs (lvl prg (n + 20)) aftB K X [some v0, some v1, some v2, some (.ref b), some (.ref a), some (.int (bad : Int)), o6, o7, o8, o9] S := by
  dsimp only [aftB, forBody, ir8]
  walk_at "s"; walk_at "e"
  refine w_laid (n := n + 16) h ha ne hw hn fun ld tr P l S1 gld htr hc hP hlen hl1 nlb h1 x1 => ?_
  have ha1 := x1 _ _ ne ha
  have lne : ∀ k, (lns k P).length = ws.length := fun k => by rw [lns_len, ← hP, List.length_map]
  walk_at "e"
  walk_at "s"; walk_at "e"
  simp only [ha1, List.length_map]
  rcases hb with ⟨rfl, hv⟩ | ⟨W1, wb, W2, rfl, rfl, hv, hbw⟩
  · rw [decide_eq_false (show ¬ ((ws.length : Int) < (ws.length : Int)) by omega)]
    have hvP : ∀ p ∈ P, Vw p.1 := fun p hp => hv _ (by rw [← hP]; exact List.mem_map_of_mem hp)
    have ht := tks_all P ld 1 tr gld hc hvP htr
    have hzl : (zl (1 + cnt ld) P).length = ws.length := by rw [zl_zip, List.length_zip, hP, lne]; exact Nat.min_self _
    have hzt : ∀ t ∈ zl (1 + cnt ld) P, t.1.all (fun c => decide (c < 0x110000)) = true := fun t ht => by
      rw [zl_zip, hP] at ht
      exact (hv _ (List.of_mem_zip ht).1).lt
    obtain ⟨z1, z2, z3⟩ := tkD_ok _ hzt
    walk_at "e"
    refine ⟨by omega, by omega, fun r hr => ?_⟩
    have nar : a ≠ r := new_ne ha1 hr
    have nlr : l ≠ r := new_ne hl1 hr
    refine goW_inv (fun ds S2 => ∃ k : Nat, ds = (List.range' k (ws.length - k)).map (fun (j : Nat) => D.int (j : Int)) ∧ k ≤ ws.length ∧ Sxb r S1 S2 ∧ S2 r = some (.lst ((zl (1 + cnt ld) P).map tkD |>.take k))) (fun d ds S2 K2 h2 k2 => ?_) (fun _ _ _ => True.intro) (fun S2 h2 => ?_) _ _ ⟨0, by simp [rngD, List.range_eq_range'], Nat.zero_le _, Sxb.put, by rw [Sto.upd_same]; rfl⟩
    · obtain ⟨k, hk, hkl, x2, h2⟩ := h2
      have hklt : k < ws.length := by
        by_cases hh : k < ws.length
        · exact hh
        · rw [show ws.length - k = 0 by omega] at hk; simp at hk
      rw [show ws.length - k = (ws.length - (k + 1)) + 1 by omega, List.range'_succ, List.map_cons] at hk
      injection hk with hd hds
      subst hd
      have a2 := x2 _ _ nar ha1
      have l2 := x2 _ _ nlr hl1
      walk_at "e"
      simp only [a2, l2]
      refine ⟨.str ws[k], by rw [atI_nat, List.getElem?_map, List.getElem?_eq_getElem hklt]; rfl, ?_⟩
      refine ⟨.int (((lns (1 + cnt ld) P)[k]'(by rw [lne]; exact hklt) : Nat) : Int), by rw [atI_nat, List.getElem?_append_left (by rw [List.length_map, lne]; exact hklt), List.getElem?_map, List.getElem?_eq_getElem (by rw [lne]; exact hklt)]; rfl, ?_⟩
      refine ⟨_, h2, of_eq_true (sz_lt (by rw [List.length_take, List.length_map, hzl]; omega)), ?_⟩
      refine k2 _ ⟨k + 1, hds, by omega, x2.trans Sxb.put, ?_⟩
      rw [Sto.upd_same]
      congr 2
      rw [List.take_add_one, List.getElem?_map, List.getElem?_eq_getElem (by rw [hzl]; exact hklt)]
      simp only [zl_zip, List.getElem_zip, Option.map_some, Option.toList_some]
      congr 2
      simp only [tkD]
      congr 3
      simp [hP]
    · obtain ⟨k, hk, hkl, x2, h2⟩ := h2
      have hke : k = ws.length := by
        have := congrArg List.length hk
        simp at this
        omega
      subst hke
      rw [List.take_of_length_le (by rw [List.length_map, hzl]; exact Nat.le_refl _)] at h2
      have xs : Sx S1 S2 := x2.of_new hr
      walk_at "s"; walk_at "e"
      refine w_told (n := n + 14) (by omega) (by rw [hzl]; omega) ht (fun _ c S3 hc3 h3 x3 => ?_) (fun k e => by cases e)
      refine eqW_lst2 (rd_lst h3) (rd_lst (x3 _ _ h2)) z1 z1 (by omega) ?_
      rw [z3]
      walk_at "r"
      exact q _ _ _ _ _ _ _ S3 (hI S3 ((x1.trans xs.b).trans x3.b))
  · rw [decide_eq_true (show ((W1.length : Int) < ((W1 ++ wb :: W2).length : Int)) by simp only [List.length_append, List.length_cons]; omega)]
    obtain ⟨P1, Pr, rfl, hP1, hPr⟩ := List.map_eq_append_iff.mp hP
    obtain ⟨q', P2, rfl, hq, hP2⟩ := List.map_eq_cons_iff.mp hPr
    obtain ⟨w', gb⟩ := q'
    dsimp only at hq
    subst hq
    have hvP : ∀ p ∈ P1, Vw p.1 := fun p hp => hv _ (by rw [← hP1]; exact List.mem_map_of_mem hp)
    have ht := tks_bad P1 ld 1 w' gb P2 tr gld hc hvP hbw
    have hl1' : P1.length = W1.length := by rw [← hP1, List.length_map]
    walk_at "e"
    simp only [hl1]
    refine ⟨.int ((1 + cnt ld + tot P1 : Nat) : Int), ?_, ?_⟩
    · simp only [ntD]
      rw [atI_nat, lns_app, List.map_append, List.map_cons, List.append_assoc, List.getElem?_append_right (by rw [List.length_map, lns_len]; omega), List.length_map, lns_len, hl1', Nat.sub_self]
      rfl
    walk_at "s"; walk_at "e"
    have hzl : (zl (1 + cnt ld) P1).length ≤ 100000 := by rw [zl_zip, List.length_zip, List.length_map, lns_len]; simp only [List.length_append] at hn; omega
    refine w_told (n := n + 14) (by omega) hzl ht (fun e => by cases e) (fun k e S3 x3 => ?_)
    cases e
    walk_at "r"
    exact q _ _ _ _ _ _ _ S3 (hI S3 (x1.trans x3.b))
end K02
end Mini
end L2
namespace L2
namespace Mini
namespace K02
open PySem PySem.Spec PyProof.Rows
local macro_rules | `(tactic| walk_at "s") => `(tactic| first | with_reducible refine st_set ?_ | with_reducible refine st_ife ?_ | with_reducible refine st_ret ?_ | with_reducible refine st_ex ?_ | with_reducible refine st_unp ?_ | with_reducible refine st_unpl ?_ | with_reducible refine st_unpa ?_ | with_reducible refine st_aug ?_ | with_reducible refine st_for ?_ | with_reducible refine st_whl ?_ | with_reducible refine st_nil ?_ | with_reducible refine st_setix ?_ | with_reducible refine st_raise ?_ | with_reducible refine st_try ?_ | with_reducible refine st_setat ?_ | with_reducible refine st_augat ?_ | with_reducible refine st_pass ?_ | with_reducible refine st_brk ?_ | with_reducible refine st_cnt ?_)
local macro_rules | `(tactic| walk_at "e") => `(tactic| try simp only [fget, fput, eq_self, Nat.reduceEqDiff, and_true, Int.reduceBEq, wpC, goW, List.map_cons, List.map_nil, deq, deqs, List.any_cons, List.any_nil, slW, cut_1, Int.cast_ofNat_Int, Int.natCast_zero, Int.natCast_one, Int.reduceLE, Int.reduceLT, Int.reduceNeg, Int.reduceAdd, Int.reduceSub, decide_true, decide_false, inW_chr, List.contains_cons, List.contains_nil, Bool.or_true, Bool.true_or, Bool.or_false, Bool.false_or, gd, gds, List.all_cons, List.all_nil, Nat.reduceLT, List.zip_cons_cons, List.zip_nil_left, List.foldl_cons, List.foldl_nil, wpT, wpE, wpEs, wpO, wpI, env0, Env.get, List.map, List.length, List.replicate, List.getElem?_cons_zero, List.getElem?_cons_succ, List.nil_append, List.cons_append, List.append_nil, tru, isiW, cmpW, List.set, Nat.reduceSub, Nat.reduceAdd, Bool.not_true, Bool.not_false, Bool.false_eq_true, if_true, if_false, reduceIte, ixW, biW, bmTy, augW, tgW, newW, wpPs, dmerge, sqW_t, sqW_s, binW_ai, binW_si, binW_at, binW_as, binW_mi, binW_di, binW_mo, atI_0, atI_1, atI_2, ex_some, eqW_str, eqW_int, sz0, sz1, sz2, sz3, sz4, sz5, sz6, sz7, sz8, sz9, sz10, sz11, sz12, sz13, sz14, true_and, Bool.false_xor, Bool.true_xor, lb_cc, lb_nc, lb_cn, lb_nn, Nat.reduceBEq, Bool.and_true, Bool.true_and, Bool.false_and, Bool.and_false, beq_self_eq_true, binW_ms])
local macro_rules | `(tactic| walk_at "r") => `(tactic| ((try walk_at "s"); walk_at "e"; repeat (walk_at "s"; walk_at "e")))
local macro_rules | `(tactic| walk_at "w") => `(tactic| simp only [wpSs, wpS, wpT, wpE, wpEs, wpO, wpI, env0, Env.get, List.map, List.length, List.replicate, List.getElem?_cons_zero, List.getElem?_cons_succ, List.nil_append, List.cons_append, List.append_nil, tru, isiW, cmpW, List.set, Nat.reduceSub, Nat.reduceAdd, Bool.not_true, Bool.not_false, Bool.false_eq_true, if_true, if_false, reduceIte, ixW, biW, bmTy, sqW_t, sqW_s, binW_ai, binW_si, binW_at, binW_as, binW_mi, binW_di, binW_mo, atI_0, atI_1, atI_2, ex_some, eqW_str, eqW_int, sz0, sz1, sz2, sz3, sz4, sz5, sz6, sz7, sz11, true_and, Bool.false_xor, Bool.true_xor, lb_cc, lb_nc, lb_cn, lb_nn, Nat.reduceBEq, Bool.and_true, Bool.true_and, Bool.false_and, Bool.and_false, beq_self_eq_true])
local macro_rules | `(tactic| walk_at "q") => `(tactic| refine eqW_of rfl rfl (Nat.le_of_ble_eq_true rfl) ?_)
local macro_rules | `(tactic| walk_at "g") => `(tactic| (walk_at "r"; repeat (walk_at "q"; walk_at "r")))
/-! ### the law -/
/-- the script's row, the row of odd words -/
structure Inv (s o : Addr) (ns : List Int) (S : Sto) : Prop where
  rd : rd S s = some (ns.map D.int)
  od : S o = some (.lst (oddL.map .str))
theorem Inv.sx {s o : Addr} {ns : List Int} {S S' : Sto} (h : Inv s o ns S) (x : Sx S S') : Inv s o ns S' := ⟨rd_sx x h.rd, x _ _ h.od⟩
theorem rd_sxb {a b : Addr} {ds : List D} {S S' : Sto} (x : Sxb b S S') (ne : a ≠ b) (h : rd S a = some ds) : rd S' a = some ds := by
  rcases rd_cases2 h with e | e
  · have := x _ _ ne e
    unfold Mini.rd; rw [this]
  · have := x _ _ ne e
    unfold Mini.rd; rw [this]
theorem Inv.sxb {s o b : Addr} {ns : List Int} {S S' : Sto} (h : Inv s o ns S) (n1 : s ≠ b) (n2 : o ≠ b) (x : Sxb b S S') : Inv s o ns S' := ⟨rd_sxb x n1 h.rd, x _ _ n2 h.od⟩
theorem body_ok {n k : Nat} {s o : Addr} {ns : List Int} {o3 o4 o5 o6 o7 o8 o9 : Option D} {S : Sto} {K : En} {X : EX} (h : Inv s o ns S)
    (q : ∀ o3 o4 o5 o6 o7 o8 o9 S', Inv s o ns S' → K.nx [some (.ref s), some (.ref o), some (.int (k : Int)), o3, o4, o5, o6, o7, o8, o9] S') :
    wpSs (lvl prg (n + 20)) (forBody ir8) K X [some (.ref s), some (.ref o), some (.int (k : Int)), o3, o4, o5, o6, o7, o8, o9] S := by
  have aft := fun {b a : Addr} {o6 o7 o8 o9 : Option D} {ws : List (List Nat)} {bad : Nat} {S : Sto} => @aft_ok n b a (.ref s) (.ref o) (.int (k : Int)) o6 o7 o8 o9 ws bad S K X
  generalize hB : aftB = B at aft
  have tl : ∀ G K X σ S', wpSs G (forBody ir8) K X σ S' = wpSs G (.cons (.set 3 (.call 1 (.cons (.var 0) (.cons (.var 2) .nil))))
    (.cons (.set 4 (.lc (.call 6 (.cons (.var 3) .nil)) (.nm 9) (.rng (.call 2 (.cons (.var 3) (.cons (.lit (.int 41)) .nil)))) .none))
    (.cons (.set 5 (.bi .len (.cons (.var 4) .nil)))
    (.cons (.ife (.cmp .eq (.call 2 (.cons (.var 3) (.cons (.lit (.int 2)) .nil))) (.lit (.int 0))) (.cons (.set 5 (.call 2 (.cons (.var 3) (.cons (.bin .add (.bi .len (.cons (.var 4) .nil)) (.lit (.int 1))) .nil))))
    (.cons (.set 4 (.bin .add (.bin .add (.slc (.var 4) .none (.some (.var 5))) (.lst (.cons (.ix (.var 1) (.call 2 (.cons (.var 3) (.cons (.lit (.int 18)) .nil)))) .nil))) (.slc (.var 4) (.some (.var 5)) .none)))
    .nil)) .nil) B)))) K X σ S' := fun _ _ _ _ _ => by subst hB; rfl
  rw [tl]
  walk_at "s"; walk_at "e"
  refine w_bag (n := n + 19) (k := k) h.rd fun b S1 nb h1 x1 => ?_
  have nsb : s ≠ b := by
    rcases rd_cases2 h.rd with e | e
    · exact new_ne e nb
    · exact new_ne e nb
  have nob : o ≠ b := new_ne h.od nb
  have i1 : Inv s o ns S1 := h.sx x1
  walk_at "s"; walk_at "e"
  refine w_fdraw (m := 41) (n := n + 19) h1 (by omega) (by omega) fun m S2 hm h2 x2 => ?_
  have i2 : Inv s o ns S2 := i1.sxb nsb nob x2
  walk_at "e"
  refine ⟨by omega, by omega, fun r hr => ?_⟩
  have nrb : r ≠ b := h2.ne hr
  refine goW_inv (fun ds S' => ∃ ws : List (List Nat), ws.length + ds.length = m ∧ (∀ w ∈ ws, Vw w ∧ w.length ≤ 12) ∧ Bg b S' ∧ S' r = some (.lst (ws.map .str)) ∧ Sxb b S2 S') (fun d ds S' K2 h2 k2 => ?_) (fun _ _ _ => True.intro) (fun S3 h3 => ?_) _ _ ⟨[], by simp [rngD], by simp, h2.new hr, by rw [Sto.upd_same]; rfl, (Sx.new hr).b⟩
  · obtain ⟨ws, hl, hv, hb, hr', x'⟩ := h2
    simp only [List.length_cons] at hl
    walk_at "e"
    refine w_word (n := n + 16) hb fun w S4 vw lw h4 x4 => ?_
    have hr4 := x4 _ _ nrb hr'
    refine ⟨_, hr4, of_eq_true (sz_lt (by rw [List.length_map]; omega)), ?_⟩
    refine k2 _ ⟨ws ++ [w], by simp only [List.length_append, List.length_cons, List.length_nil]; omega, ?_, ?_, ?_, ?_⟩
    · intro v hv'
      rcases List.mem_append.mp hv' with hv' | hv'
      · exact hv v hv'
      · rw [List.mem_singleton] at hv'; subst hv'; exact ⟨vw, lw⟩
    · obtain ⟨a1, a2, a3, a4, e⟩ := h4
      exact ⟨a1, a2, a3, a4, by rw [Sto.upd_ne (Ne.symm nrb)]; exact e⟩
    · rw [Sto.upd_same]; simp
    · intro c d nc hc
      have : c ≠ r := new_ne hc hr
      rw [Sto.upd_ne this]
      exact x4 _ _ nc (x' _ _ nc hc)
  · obtain ⟨ws, hl, hv, h3, hr3, x3⟩ := h3
    simp only [List.length_nil] at hl
    have i3 : Inv s o ns S3 := i2.sxb nsb nob x3
    walk_at "s"; walk_at "e"
    simp only [hr3, List.length_map]
    walk_at "s"; walk_at "e"
    refine w_fdraw (m := 2) (n := n + 19) h3 (by omega) (by omega) fun z S4 hz h4 x4 => ?_
    have i4 : Inv s o ns S4 := i3.sxb nsb nob x4
    have hr4 := x4 _ _ nrb hr3
    walk_at "e"
    have wo : ∀ w ∈ ws, Wo w := fun w hw => (hv w hw).1.wo (hv w hw).2
    cases hz0 : ((z : Int) == 0) with
    | false =>
      walk_at "e"
      walk_at "s"
      exact aft h4 hr4 nrb wo (by omega) (.inl ⟨rfl, fun w hw => (hv w hw).1⟩) (Inv s o ns) (fun S' x' => i4.sxb nsb nob x') q
    | true =>
      walk_at "e"
      walk_at "s"; walk_at "e"
      simp only [hr4, List.length_map]
      rw [show ((ws.length : Int) + 1) = ((ws.length + 1 : Nat) : Int) from rfl]
      refine w_fdraw (m := ws.length + 1) (n := n + 19) h4 (by omega) (by omega) fun bd S5 hbd h5 x5 => ?_
      have i5 : Inv s o ns S5 := i4.sxb nsb nob x5
      have hr5 := x5 _ _ nrb hr4
      walk_at "s"; walk_at "e"
      refine ⟨_, rd_lst hr5, fun p1 hp1 => ?_⟩
      rw [cut_to, ← List.map_take]
      have i6 : Inv s o ns (S5.upd p1 (.lst ((ws.take bd).map .str))) := i5.sx (Sx.new hp1)
      refine w_fdraw (m := 18) (n := n + 19) (h5.new hp1) (by omega) (by omega) fun od S7 hod h7 x7 => ?_
      have i7 : Inv s o ns S7 := i6.sxb nsb nob x7
      have hp17 := x7 _ _ (h5.ne hp1) (Sto.upd_same (S := S5) (a := p1))
      have x57 : Sxb b S5 S7 := (Sx.new hp1).b.trans x7
      have hr7 := x57 _ _ nrb hr5
      simp only [i7.od]
      have hod' : od < oddL.length := hod
      refine ⟨.str oddL[od], by rw [atI_nat, List.getElem?_map, List.getElem?_eq_getElem hod']; rfl, ?_⟩
      intro p2 hp2
      have n12 : p1 ≠ p2 := new_ne hp17 hp2
      refine binW_ll (xs := (ws.take bd).map .str) (ys := [.str oddL[od]]) (by rw [Sto.upd_ne n12]; exact hp17) Sto.upd_same (by simp only [List.length_map, List.length_take, List.length_cons, List.length_nil]; omega) fun p3 hp3 => ?_
      have xx : Sxb b S7 ((S7.upd p2 (.lst [.str oddL[od]])).upd p3 (.lst ((ws.take bd).map .str ++ [.str oddL[od]]))) := (Sx.new hp2).b.trans (Sx.new hp3).b
      have h8 : Bg b ((S7.upd p2 (.lst [.str oddL[od]])).upd p3 (.lst ((ws.take bd).map .str ++ [.str oddL[od]]))) := (h7.new hp2).new hp3
      generalize hS8 : ((S7.upd p2 (.lst [.str oddL[od]])).upd p3 (.lst ((ws.take bd).map .str ++ [.str oddL[od]]))) = S8 at xx h8
      have h38 : S8 p3 = some (.lst ((ws.take bd).map .str ++ [.str oddL[od]])) := by rw [← hS8, Sto.upd_same]
      have hr8 := xx _ _ nrb hr7
      refine ⟨_, rd_lst hr8, fun p4 hp4 => ?_⟩
      rw [cut_from, ← List.map_drop]
      refine binW_ll (xs := (ws.take bd).map .str ++ [.str oddL[od]]) (ys := (ws.drop bd).map .str) (by rw [Sto.upd_ne (new_ne h38 hp4)]; exact h38) Sto.upd_same (by simp only [List.length_append, List.length_map, List.length_take, List.length_drop, List.length_cons, List.length_nil]; omega) fun p5 hp5 => ?_
      have e9 : ((ws.take bd).map D.str ++ [D.str oddL[od]] ++ (ws.drop bd).map D.str) = (ws.take bd ++ oddL[od] :: ws.drop bd).map .str := by simp
      rw [e9]
      have x9 : Sxb b S7 ((S8.upd p4 (.lst ((ws.drop bd).map .str))).upd p5 (.lst ((ws.take bd ++ oddL[od] :: ws.drop bd).map .str))) := (xx.trans (Sx.new hp4).b).trans (Sx.new hp5).b
      have h9 := (h8.new (x := .lst ((ws.drop bd).map .str)) hp4).new (x := .lst ((ws.take bd ++ oddL[od] :: ws.drop bd).map .str)) hp5
      have hbe : bd = (ws.take bd).length := by rw [List.length_take]; omega
      obtain ⟨bw, bo⟩ := odd_ok oddL[od] (List.getElem_mem hod')
      have ht : ∀ w ∈ ws.take bd, w ∈ ws := fun w hw => List.mem_of_mem_take hw
      have hd : ∀ w ∈ ws.drop bd, w ∈ ws := fun w hw => List.mem_of_mem_drop hw
      have np5 : p5 ≠ b := (h8.new (x := .lst ((ws.drop bd).map .str)) hp4).ne hp5
      walk_at "s"
      refine aft h9 (by rw [Sto.upd_same]) np5 (fun w hw => ?_) (by simp only [List.length_append, List.length_take, List.length_drop, List.length_cons]; omega) (.inr ⟨ws.take bd, oddL[od], ws.drop bd, rfl, hbe, fun w hw => (hv w (ht w hw)).1, bw⟩) (Inv s o ns) (fun S' x' => (i7.sxb nsb nob x9).sxb nsb nob x') q
      rcases List.mem_append.mp hw with hw | hw
      · exact wo w (ht w hw)
      · rcases List.mem_cons.mp hw with rfl | hw
        · exact bo
        · exact wo w (hd w hw)
theorem turns {n : Nat} {s o : Addr} {ns : List Int} {K : En} {X : EX} (q : ∀ o2 o3 o4 o5 o6 o7 o8 o9 S', Inv s o ns S' → K.nx [some (.ref s), some (.ref o), o2, o3, o4, o5, o6, o7, o8, o9] S') : ∀ (m k : Nat) (o2 o3 o4 o5 o6 o7 o8 o9 : Option D) (S : Sto), Inv s o ns S →
    forW (fun _ => True) (.nm 2) (fun K σ S => wpSs (lvl prg (n + 20)) (forBody ir8) K X σ S) K ((List.range' k m).map fun (j : Nat) => D.int (j : Int)) [some (.ref s), some (.ref o), o2, o3, o4, o5, o6, o7, o8, o9] S
  | 0, k, o2, o3, o4, o5, o6, o7, o8, o9, S, h => ⟨True.intro, q _ _ _ _ _ _ _ _ S h⟩
  | m + 1, k, o2, o3, o4, o5, o6, o7, o8, o9, S, h => by
    rw [List.range'_succ, List.map_cons]
    exact forW_step True.intro rfl fun K' knx _ _ _ => body_ok h fun o3 o4 o5 o6 o7 o8 o9 S' h' => knx _ _ (turns q m (k + 1) _ o3 o4 o5 o6 o7 o8 o9 S' h')
/-- what the law says last -/
abbrev lawRet : Stms := match ir8 with
  | .cons _ (.cons _ r) => r
  | _ => .nil
theorem tk1 : Tks [49, 50, 120, 51] 1 [([49, 50], 1), ([120, 51], 1)] none :=
  Tks.cons (s' := [120, 51]) (by decide) (Tks.cons (s' := []) (by decide) (Tks.fin (by decide)))
theorem tk2 : Tks [120, 49, 50] 1 [([120, 49, 50], 1)] none :=
  Tks.cons (s' := []) (by decide) (Tks.fin (by decide))
theorem tk0 : Tks [] 1 [] none := Tks.fin (by decide)
theorem pure_law : ∀ (S : Sto) (a : Addr) (ns : List Int), ns.length ≤ 63 → rd S a = some (ns.map D.int) → (lvl prg 680).fn 8 [.ref a] S (fun d _ => d = .bl true) (fun _ _ => False) := by
  intro S a ns hl h
  show (lvl prg (659 + 20 + 1)).fn 8 [.ref a] S (fun d _ => d = .bl true) (fun _ _ => False)
  refine ⟨rfl, ?_⟩
  have fin : ∀ (p : Addr) o2 o3 o4 o5 o6 o7 o8 o9 S', Inv a p ns S' → wpSs (lvl prg 679) lawRet { nx := fun _ _ => D.non = D.bl true, rt := fun d _ => d = D.bl true } (fun _ _ _ => False) [some (.ref a), some (.ref p), o2, o3, o4, o5, o6, o7, o8, o9] S' := fun p o2 o3 o4 o5 o6 o7 o8 o9 S' h' => by
    dsimp only [lawRet, ir8]
    walk_at "s"; walk_at "e"
    refine w_told (n := 673) (by decide) (by decide) tk0 (fun _ c S1 _ hc _ => ?_) (fun k e => by cases e)
    intro p1 hp1
    refine eqW_lst2 (ds := []) (es := []) (rd_lst (by rw [Sto.upd_ne (new_ne hc hp1)]; exact hc)) (rd_lst Sto.upd_same) rfl rfl (by decide) ?_
    walk_at "e"
    refine w_told (n := 673) (by decide) (by decide) tk1 (fun _ c S2 _ hc _ => ?_) (fun k e => by cases e)
    intro p2 hp2
    refine eqW_lst2 (rd_lst (by rw [Sto.upd_ne (new_ne hc hp2)]; exact hc)) (rd_lst Sto.upd_same) rfl rfl (by decide) ?_
    rw [show deqs _ _ = true from rfl]
    walk_at "e"
    refine w_told (n := 673) (by decide) (by decide) tk2 (fun _ c S3 _ hc _ => ?_) (fun k e => by cases e)
    intro p3 hp3
    refine eqW_lst2 (rd_lst (by rw [Sto.upd_ne (new_ne hc hp3)]; exact hc)) (rd_lst Sto.upd_same) rfl rfl (by decide) ?_
    rfl
  have run : ∀ (p : Addr) S1, Inv a p ns S1 → wpSs (lvl prg 679) (.cons (.for_ (.nm 2) (.rng (.bi .max (.cons (.lit (.int 1)) (.cons (.bi .min (.cons (.lit (.int 12)) (.cons (.bi .len (.cons (.var 0) .nil)) .nil))) .nil)))) (forBody ir8)) lawRet) { nx := fun _ _ => D.non = D.bl true, rt := fun d _ => d = D.bl true } (fun _ _ _ => False) [some (.ref a), some (.ref p), none, none, none, none, none, none, none, none] S1 := fun p S1 hi => by
    have fin := fin p
    generalize lawRet = R at fin
    have hm : ∀ (i : Int), i ≤ 1000 → forW (fun _ => True) (.nm 2) (fun K σ S => wpSs (lvl prg (659 + 20)) (forBody ir8) K (fun _ _ _ => False) σ S) { nx := fun σ S => wpSs (lvl prg 679) R { nx := fun _ _ => D.non = D.bl true, rt := fun d _ => d = D.bl true } (fun _ _ _ => False) σ S, rt := fun d _ => d = D.bl true } (rngD 0 i.toNat) [some (.ref a), some (.ref p), none, none, none, none, none, none, none, none] S1 := fun i _ => by
      rw [show rngD 0 i.toNat = (List.range' 0 i.toNat).map fun (j : Nat) => D.int (j : Int) from by simp [rngD, List.range_eq_range']]
      exact turns (n := 659) (K := { nx := fun σ S => wpSs (lvl prg 679) R { nx := fun _ _ => D.non = D.bl true, rt := fun d _ => d = D.bl true } (fun _ _ _ => False) σ S, rt := fun d _ => d = D.bl true }) fin _ 0 _ _ _ _ _ _ _ _ S1 hi
    generalize forBody ir8 = FB at hm
    rcases rd_cases2 hi.rd with e | e
    · walk_at "s"; walk_at "e"
      simp only [e, List.length_map]
      exact ⟨by split <;> split <;> omega, by split <;> split <;> omega, hm _ (by split <;> split <;> omega)⟩
    · walk_at "s"; walk_at "e"
      simp only [e, List.length_map]
      exact ⟨by split <;> split <;> omega, by split <;> split <;> omega, hm _ (by split <;> split <;> omega)⟩
  unfold ir8
  walk_at "s"; walk_at "e"
  refine ⟨of_eq_true (sz_le (by decide)), fun p hp => ?_⟩
  have hi : Inv a p ns (S.upd p (.lst (oddL.map .str))) := ⟨rd_sx (Sx.new hp) h, by rw [Sto.upd_same]⟩
  exact run p _ hi
end K02
end Mini
end L2
namespace L2
namespace Mini
namespace K02
open PySem PySem.Spec PyProof.Rows
theorem mn_fld0 : ∀ f, f < 6 → fld f ≠ mn 0 := by decide +kernel
theorem mn_fld1 : ∀ f, f < 6 → fld f ≠ mn 1 := by decide +kernel
theorem mn_fld2 : ∀ f, f < 6 → fld f ≠ mn 2 := by decide +kernel
theorem mn_fld3 : ∀ f, f < 6 → fld f ≠ mn 3 := by decide +kernel
theorem mn_fld4 : ∀ f, f < 6 → fld f ≠ mn 4 := by decide +kernel
end K02
end Mini
end L2
namespace L2
namespace Mini
namespace K02
open PySem PySem.Spec PyProof.Rows
set_option maxHeartbeats 0 in
theorem all_mk {P : Program} {w : World} {K : PySem.W.Frag} {h : Heap} {mg : Str → Option Value} {fl : Addr} (X : K.In h) (G : h.Ns mainGlobals mg) (hfa : mg "law" = some (.ref fl))
    (pure : ∀ (S : Sto) (a : Addr) (ns : List Int), ns.length ≤ 63 → rd S a = some (ns.map D.int) → (lvl prg 680).fn 8 [.ref a] S (fun d _ => d = .bl true) (fun _ _ => False))
    {f0 f1 f2 f3 f4 f5 f6 f7 f8 f9 f10 f11 f12 f13 C0 C1 C2 g2 t2 : Addr}
    {od0 an0 : Option Addr} {sl0 : Array (Option Value)} {oc0 kV0 dc0 pm0 cd0 ct0 : Value}
    {od1 an1 : Option Addr} {sl1 : Array (Option Value)} {oc1 kV1 dc1 pm1 cd1 ct1 : Value}
    {od2 an2 : Option Addr} {sl2 : Array (Option Value)} {oc2 kV2 dc2 pm2 cd2 ct2 : Value}
    {od3 an3 : Option Addr} {sl3 : Array (Option Value)} {oc3 kV3 dc3 pm3 cd3 ct3 : Value}
    {od4 an4 : Option Addr} {sl4 : Array (Option Value)} {oc4 kV4 dc4 pm4 cd4 ct4 : Value}
    {od5 an5 : Option Addr} {sl5 : Array (Option Value)} {oc5 kV5 dc5 pm5 cd5 ct5 : Value}
    {od6 an6 : Option Addr} {sl6 : Array (Option Value)} {oc6 kV6 dc6 pm6 cd6 ct6 : Value}
    {od7 an7 : Option Addr} {sl7 : Array (Option Value)} {oc7 kV7 dc7 pm7 cd7 ct7 : Value}
    {od8 an8 : Option Addr} {sl8 : Array (Option Value)} {oc8 kV8 dc8 pm8 cd8 ct8 : Value}
    {od9 an9 : Option Addr} {sl9 : Array (Option Value)} {oc9 kV9 dc9 pm9 cd9 ct9 : Value}
    {od10 an10 : Option Addr} {sl10 : Array (Option Value)} {oc10 kV10 dc10 pm10 cd10 ct10 : Value}
    {od11 an11 : Option Addr} {sl11 : Array (Option Value)} {oc11 kV11 dc11 pm11 cd11 ct11 : Value}
    {od12 an12 : Option Addr} {sl12 : Array (Option Value)} {oc12 kV12 dc12 pm12 cd12 ct12 : Value}
    {od13 an13 : Option Addr} {sl13 : Array (Option Value)} {oc13 kV13 dc13 pm13 cd13 ct13 : Value}
    {nm2 qn2 : Str} {N2 : Addr} {bs2 bm2 : List Value} {sn2 : List Str} {sb2 : List Value} {ab2 : Bool} {co2 : Option Bool} {dd2 : Option Addr} {m02 m12 m22 m32 m52 : Option Value}
    {odx2 anx2 : Option Addr} {slx2 : Array (Option Value)} {ocx2 kVx2 dcx2 pmx2 cdx2 ctx2 : Value}
    {tk0 : Tok}
    {tk1 : Tok}
    {tk2_0 : Tok}
    {tk2_1 : Tok}
    {dt2 : Option Addr} {nt2 : Nat} {st2 : Array (Option Value)}
    {tk3 : Tok}
    {tk4 : Tok}
    {tk5 : Tok}
    (aC0 : PySem.W.nsIn K mainGlobals "Tokens" = some (some (.ref C0)))
    (kC0 : PySem.W.keepIn K (.ref C0) = true)
    (aC1 : PySem.W.nsIn K mainGlobals "TermError" = some (some (.ref C1)))
    (kC1 : PySem.W.keepIn K (.ref C1) = true)
    (aC2 : PySem.W.nsIn K mainGlobals "BadText" = some (some (.ref C2)))
    (kC2 : PySem.W.keepIn K (.ref C2) = true)
    (a0_9 : PySem.W.findIn K (.ref C0) "__init__" = some (some (.ref f9)))
    (a0_10 : PySem.W.findIn K (.ref C0) "refuse" = some (some (.ref f10)))
    (a0_11 : PySem.W.findIn K (.ref C0) "go_on" = some (some (.ref f11)))
    (a0_12 : PySem.W.findIn K (.ref C0) "_skip" = some (some (.ref f12)))
    (a0_13 : PySem.W.findIn K (.ref C0) "_take" = some (some (.ref f13)))
    (a0 : PySem.W.nsIn K mainGlobals "tokens" = some (some (.ref f0)))
    (l0 : K.lookup f0 = some ⟨oc0, od0, .func (PySem.W.fnOf "tokens" "tokens" (defArgs s0) (defBody s0) (defScope s0) .none kV0 dc0 pm0 an0 cd0 ct0), sl0⟩)
    (c0 : PySem.W.codeIn K cd0 "tokens" = true)
    (k0 : PySem.W.keepIn K (.ref f0) = true)
    (a1 : PySem.W.nsIn K mainGlobals "_law_bag" = some (some (.ref f1)))
    (l1 : K.lookup f1 = some ⟨oc1, od1, .func (PySem.W.fnOf "_law_bag" "_law_bag" (defArgs s1) (defBody s1) (defScope s1) .none kV1 dc1 pm1 an1 cd1 ct1), sl1⟩)
    (c1 : PySem.W.codeIn K cd1 "_law_bag" = true)
    (k1 : PySem.W.keepIn K (.ref f1) = true)
    (a2 : PySem.W.nsIn K mainGlobals "_law_draw" = some (some (.ref f2)))
    (l2 : K.lookup f2 = some ⟨oc2, od2, .func (PySem.W.fnOf "_law_draw" "_law_draw" (defArgs s2) (defBody s2) (defScope s2) .none kV2 dc2 pm2 an2 cd2 ct2), sl2⟩)
    (c2 : PySem.W.codeIn K cd2 "_law_draw" = true)
    (k2 : PySem.W.keepIn K (.ref f2) = true)
    (a3 : PySem.W.nsIn K mainGlobals "_law_one" = some (some (.ref f3)))
    (l3 : K.lookup f3 = some ⟨oc3, od3, .func (PySem.W.fnOf "_law_one" "_law_one" (defArgs s3) (defBody s3) (defScope s3) .none kV3 dc3 pm3 an3 cd3 ct3), sl3⟩)
    (c3 : PySem.W.codeIn K cd3 "_law_one" = true)
    (k3 : PySem.W.keepIn K (.ref f3) = true)
    (a4 : PySem.W.nsIn K mainGlobals "_law_gap" = some (some (.ref f4)))
    (l4 : K.lookup f4 = some ⟨oc4, od4, .func (PySem.W.fnOf "_law_gap" "_law_gap" (defArgs s4) (defBody s4) (defScope s4) .none kV4 dc4 pm4 an4 cd4 ct4), sl4⟩)
    (c4 : PySem.W.codeIn K cd4 "_law_gap" = true)
    (k4 : PySem.W.keepIn K (.ref f4) = true)
    (a5 : PySem.W.nsIn K mainGlobals "_law_laid" = some (some (.ref f5)))
    (l5 : K.lookup f5 = some ⟨oc5, od5, .func (PySem.W.fnOf "_law_laid" "_law_laid" (defArgs s5) (defBody s5) (defScope s5) .none kV5 dc5 pm5 an5 cd5 ct5), sl5⟩)
    (c5 : PySem.W.codeIn K cd5 "_law_laid" = true)
    (k5 : PySem.W.keepIn K (.ref f5) = true)
    (a6 : PySem.W.nsIn K mainGlobals "_law_word" = some (some (.ref f6)))
    (l6 : K.lookup f6 = some ⟨oc6, od6, .func (PySem.W.fnOf "_law_word" "_law_word" (defArgs s6) (defBody s6) (defScope s6) .none kV6 dc6 pm6 an6 cd6 ct6), sl6⟩)
    (c6 : PySem.W.codeIn K cd6 "_law_word" = true)
    (k6 : PySem.W.keepIn K (.ref f6) = true)
    (a7 : PySem.W.nsIn K mainGlobals "_law_told" = some (some (.ref f7)))
    (l7 : K.lookup f7 = some ⟨oc7, od7, .func (PySem.W.fnOf "_law_told" "_law_told" (defArgs s7) (defBody s7) (defScope s7) .none kV7 dc7 pm7 an7 cd7 ct7), sl7⟩)
    (c7 : PySem.W.codeIn K cd7 "_law_told" = true)
    (k7 : PySem.W.keepIn K (.ref f7) = true)
    (a8 : PySem.W.nsIn K mainGlobals "law" = some (some (.ref f8)))
    (l8 : K.lookup f8 = some ⟨oc8, od8, .func (PySem.W.fnOf "law" "law" (defArgs s8) (defBody s8) (defScope s8) .none kV8 dc8 pm8 an8 cd8 ct8), sl8⟩)
    (c8 : PySem.W.codeIn K cd8 "law" = true)
    (k8 : PySem.W.keepIn K (.ref f8) = true)
    (i9 : PySem.W.isFn K (.ref f9) = true)
    (l9 : K.lookup f9 = some ⟨oc9, od9, .func (PySem.W.fnOf "__init__" "Tokens.__init__" (defArgs s9) (defBody s9) (defScope s9) .none kV9 dc9 pm9 an9 cd9 ct9), sl9⟩)
    (c9 : PySem.W.codeIn K cd9 "Tokens.__init__" = true)
    (k9 : PySem.W.keepIn K (.ref f9) = true)
    (i10 : PySem.W.isFn K (.ref f10) = true)
    (l10 : K.lookup f10 = some ⟨oc10, od10, .func (PySem.W.fnOf "refuse" "Tokens.refuse" (defArgs s10) (defBody s10) (defScope s10) .none kV10 dc10 pm10 an10 cd10 ct10), sl10⟩)
    (c10 : PySem.W.codeIn K cd10 "Tokens.refuse" = true)
    (k10 : PySem.W.keepIn K (.ref f10) = true)
    (i11 : PySem.W.isFn K (.ref f11) = true)
    (l11 : K.lookup f11 = some ⟨oc11, od11, .func (PySem.W.fnOf "go_on" "Tokens.go_on" (defArgs s11) (defBody s11) (defScope s11) .none kV11 dc11 pm11 an11 cd11 ct11), sl11⟩)
    (c11 : PySem.W.codeIn K cd11 "Tokens.go_on" = true)
    (k11 : PySem.W.keepIn K (.ref f11) = true)
    (i12 : PySem.W.isFn K (.ref f12) = true)
    (l12 : K.lookup f12 = some ⟨oc12, od12, .func (PySem.W.fnOf "_skip" "Tokens._skip" (defArgs s12) (defBody s12) (defScope s12) .none kV12 dc12 pm12 an12 cd12 ct12), sl12⟩)
    (c12 : PySem.W.codeIn K cd12 "Tokens._skip" = true)
    (k12 : PySem.W.keepIn K (.ref f12) = true)
    (i13 : PySem.W.isFn K (.ref f13) = true)
    (l13 : K.lookup f13 = some ⟨oc13, od13, .func (PySem.W.fnOf "_take" "Tokens._take" (defArgs s13) (defBody s13) (defScope s13) .none kV13 dc13 pm13 an13 cd13 ct13), sl13⟩)
    (c13 : PySem.W.codeIn K cd13 "Tokens._take" = true)
    (k13 : PySem.W.keepIn K (.ref f13) = true)
    (pg0 : PySem.W.plainGet K C0 Str.empty = true)
    (hd0 : PySem.W.hasDictIn K C0 = true)
    (po0 : PySem.W.plainOver K C0 = true)
    (sa0 : PySem.W.findIn K (.ref C0) "__setattr__" = some (some (.builtin "object.__setattr__")))
    (mk0 : PySem.W.makesIn K C0 = true)
    (n0_0 : PySem.W.findIn K (.ref C0) "line" = some none)
    (n0_1 : PySem.W.findIn K (.ref C0) "_text" = some none)
    (n0_2 : PySem.W.findIn K (.ref C0) "_place" = some none)
    (n0_3 : PySem.W.findIn K (.ref C0) "_line" = some none)
    (n0_4 : PySem.W.findIn K (.ref C0) "kind" = some none)
    (n0_5 : PySem.W.findIn K (.ref C0) "word" = some none)
    (q1 : PySem.W.excIn K C1 [.type "ValueError", .type "Exception", .type "BaseException", .type "object"] "ValueError.__new__" = true)
    (ex1 : PySem.W.subIn K (.ref C1) (.type "BaseException") = some true)
    (ty1 : PySem.W.typeIn K (.ref C1) = some (.type "type"))
    (ic1 : PySem.W.isClsIn K C1 = true)
    (su1_1 : PySem.W.subIn K (.ref C1) (.ref C1) = some true)
    (su1_2 : PySem.W.subIn K (.ref C1) (.ref C2) = some false)
    (ga1 : PySem.W.findIn K (.ref C1) "__getattribute__" = some (some (.builtin "BaseException.__getattribute__")))
    (gg1 : PySem.W.findIn K (.ref C1) "__getattr__" = some none)
    (xd1 : PySem.W.hasDictIn K C1 = true)
    (xn1_0 : PySem.W.findIn K (.ref C1) "line" = some none)
    (ex2 : PySem.W.subIn K (.ref C2) (.type "BaseException") = some true)
    (ty2 : PySem.W.typeIn K (.ref C2) = some (.type "type"))
    (ic2 : PySem.W.isClsIn K C2 = true)
    (su2_1 : PySem.W.subIn K (.ref C2) (.ref C1) = some true)
    (su2_2 : PySem.W.subIn K (.ref C2) (.ref C2) = some true)
    (ga2 : PySem.W.findIn K (.ref C2) "__getattribute__" = some (some (.builtin "BaseException.__getattribute__")))
    (gg2 : PySem.W.findIn K (.ref C2) "__getattr__" = some none)
    (xd2 : PySem.W.hasDictIn K C2 = true)
    (xn2_0 : PySem.W.findIn K (.ref C2) "line" = some none)
    (xL2 : K.lookup C2 = some (excClassObj nm2 qn2 C2 N2 bs2 bm2 true sn2 sb2 ab2 co2 dd2 m02 m12 m22 m32 m52 "ValueError.__new__"))
    (xr2 : PySem.HandSPX.refsVE bm2 = true)
    (xs2 : PySem.W.findIn K (.ref C2) "__setattr__" = some (some (.builtin "object.__setattr__")))
    (xi2 : PySem.W.findIn K (.ref C2) "__init__" = some (some (.ref g2)))
    (xt2 : PySem.W.typeIn K (.ref g2) = some (.type "function"))
    (lx2 : K.lookup g2 = some ⟨ocx2, odx2, .func (PySem.W.fnOf "__init__" "BadText.__init__" (defArgs x2) (defBody x2) (defScope x2) .none kVx2 dcx2 pmx2 anx2 cdx2 ctx2), slx2⟩)
    (cx2 : PySem.W.codeIn K cdx2 "BadText.__init__" = true)
    (kx2 : PySem.W.keepIn K (.ref g2) = true)
    (b0 : PySem.W.nsIn K mainGlobals "len" = some none)
    (b1 : PySem.W.nsIn K mainGlobals "int" = some none)
    (b2 : PySem.W.nsIn K mainGlobals "range" = some none)
    (b3 : PySem.W.nsIn K mainGlobals "max" = some none)
    (b4 : PySem.W.nsIn K mainGlobals "min" = some none)
    (m0 : PySem.W.nsIn K mainGlobals "MOST_NUMBER" = some (some (.int 60 tk0)))
    (m1 : PySem.W.nsIn K mainGlobals "MOST_NAME" = some (some (.int 12 tk1)))
    (m2 : PySem.W.nsIn K mainGlobals "WORDS" = some (some (.ref t2)))
    (mt2 : K.lookup t2 = some ⟨.type "tuple", dt2, .seq #[.str "let" tk2_0, .str "in" tk2_1] nt2, st2⟩)
    (m3 : PySem.W.nsIn K mainGlobals "LOWER" = some (some (.str "abcdefghijklmnopqrstuvwxyz" tk3)))
    (m4 : PySem.W.nsIn K mainGlobals "DIGITS" = some (some (.str "0123456789" tk4)))
    (m5 : PySem.W.nsIn K mainGlobals "SIGNS" = some (some (.str "\\.()=" tk5)))
    (nl : noList K = true)
    : ∃ fd : FuncData, (∀ (s : Shared) (v : Value), BindsTo s fd ⟨[v], []⟩ [("script", v)]) ∧ ∀ base : Heap, K.In base → base.Ns mainGlobals mg → FnR P w K mg base (L2.CX P w) 682 fl fd ["script"] (SpOut K) := by
  have e : fl = f8 := Value.ref.inj (Option.some.inj (hfa.symm.trans (PySem.W.mg_of X G a8)))
  subst fl
  have F0 := fun_mk (st := s0) l0 c0 k0
  have F1 := fun_mk (st := s1) l1 c1 k1
  have F2 := fun_mk (st := s2) l2 c2 k2
  have F3 := fun_mk (st := s3) l3 c3 k3
  have F4 := fun_mk (st := s4) l4 c4 k4
  have F5 := fun_mk (st := s5) l5 c5 k5
  have F6 := fun_mk (st := s6) l6 c6 k6
  have F7 := fun_mk (st := s7) l7 c7 k7
  have F8 := fun_mk (st := s8) l8 c8 k8
  have F9 := fun_mk (st := s9) l9 c9 k9
  have F10 := fun_mk (st := s10) l10 c10 k10
  have F11 := fun_mk (st := s11) l11 c11 k11
  have F12 := fun_mk (st := s12) l12 c12 k12
  have F13 := fun_mk (st := s13) l13 c13 k13
  have B0 := F0.binds (ps := ["text"]) fun _ _ _ _ _ _ us hl => match us, hl with | [_], _ => rfl
  have B1 := F1.binds (ps := ["script", "k"]) fun _ _ _ _ _ _ us hl => match us, hl with | [_, _], _ => rfl
  have B2 := F2.binds (ps := ["bag", "many"]) fun _ _ _ _ _ _ us hl => match us, hl with | [_, _], _ => rfl
  have B3 := F3.binds (ps := ["bag", "row"]) fun _ _ _ _ _ _ us hl => match us, hl with | [_, _], _ => rfl
  have B4 := F4.binds (ps := ["bag", "left", "right"]) fun _ _ _ _ _ _ us hl => match us, hl with | [_, _, _], _ => rfl
  have B5 := F5.binds (ps := ["bag", "words"]) fun _ _ _ _ _ _ us hl => match us, hl with | [_, _], _ => rfl
  have B6 := F6.binds (ps := ["bag"]) fun _ _ _ _ _ _ us hl => match us, hl with | [_], _ => rfl
  have B7 := F7.binds (ps := ["text"]) fun _ _ _ _ _ _ us hl => match us, hl with | [_], _ => rfl
  have B8 := F8.binds (ps := ["script"]) fun _ _ _ _ _ _ us hl => match us, hl with | [_], _ => rfl
  have B9 := F9.binds (ps := ["self", "text"]) fun _ _ _ _ _ _ us hl => match us, hl with | [_, _], _ => rfl
  have B10 := F10.binds (ps := ["self"]) fun _ _ _ _ _ _ us hl => match us, hl with | [_], _ => rfl
  have B11 := F11.binds (ps := ["self"]) fun _ _ _ _ _ _ us hl => match us, hl with | [_], _ => rfl
  have B12 := F12.binds (ps := ["self"]) fun _ _ _ _ _ _ us hl => match us, hl with | [_], _ => rfl
  have B13 := F13.binds (ps := ["self", "signs"]) fun _ _ _ _ _ _ us hl => match us, hl with | [_, _], _ => rfl
  have Fx2 := fun_mk (st := x2) lx2 cx2 kx2
  have Bx2 := Fx2.binds (ps := ["self", "line"]) fun _ _ _ _ _ _ us hl => match us, hl with | [_, _], _ => rfl
  have T2 : OexC K C2 := ⟨⟨nm2, qn2, N2, bs2, bm2, sn2, sb2, ab2, co2, dd2, m02, m12, m22, m32, m52, xL2, xr2⟩, xs2, ex2, ty2, kC2⟩
  have em1_1 : PySem.W.exmOne K (.ref C1) (.ref C1) = some true := exm_of ex1 ic1 ty1 su1_1
  have em1_2 : PySem.W.exmOne K (.ref C1) (.ref C2) = some false := exm_of ex2 ic2 ty2 su1_2
  have em2_1 : PySem.W.exmOne K (.ref C2) (.ref C1) = some true := exm_of ex1 ic1 ty1 su2_1
  have em2_2 : PySem.W.exmOne K (.ref C2) (.ref C2) = some true := exm_of ex2 ic2 ty2 su2_2
  have TB : ∀ n, Tab K mg (mkZ K (fun c => [C0, C1, C2].getD c 0) (fun i => [f0, f1, f2, f3, f4, f5, f6, f7, f8, f9, f10, f11, f12, f13].getD i 0)) (lvl prg n) := by
    intro n
    refine ⟨by cases n <;> rfl, by cases n <;> rfl, fun i hi => ?_, fun c hc => ?_, fun x hx => ?_, fun j x d hj => ?_, fun j x d hj => ?_, fun c hc => ?_⟩
    · match i, hi with
      | 0, _ => exact ⟨PySem.W.mg_of X G a0, k0⟩
      | 1, _ => exact ⟨PySem.W.mg_of X G a1, k1⟩
      | 2, _ => exact ⟨PySem.W.mg_of X G a2, k2⟩
      | 3, _ => exact ⟨PySem.W.mg_of X G a3, k3⟩
      | 4, _ => exact ⟨PySem.W.mg_of X G a4, k4⟩
      | 5, _ => exact ⟨PySem.W.mg_of X G a5, k5⟩
      | 6, _ => exact ⟨PySem.W.mg_of X G a6, k6⟩
      | 7, _ => exact ⟨PySem.W.mg_of X G a7, k7⟩
      | 8, _ => exact ⟨PySem.W.mg_of X G a8, k8⟩
      | i + 9, hi => exact absurd (show i + 9 < 9 from hi) (by omega)
    · match c, hc with
      | 0, _ => exact ⟨PySem.W.mg_of X G aC0, kC0⟩
      | 1, _ => exact ⟨PySem.W.mg_of X G aC1, kC1⟩
      | 2, _ => exact ⟨PySem.W.mg_of X G aC2, kC2⟩
      | c + 3, hc => exact absurd (show c + 3 < 3 from hc) (by omega)
    · have hx : x ∈ nob := hx
      unfold nob at hx
      simp only [List.mem_cons, List.not_mem_nil, or_false] at hx
      rcases hx with rfl | rfl | rfl | rfl | rfl
      · exact PySem.W.mg_none_of X G b0
      · exact PySem.W.mg_none_of X G b1
      · exact PySem.W.mg_none_of X G b2
      · exact PySem.W.mg_none_of X G b3
      · exact PySem.W.mg_none_of X G b4
    · match j, hj with
      | 0, hj => cases hj; exact ⟨.int 60, _, PySem.W.mg_of X G m0, ⟨tk0, rfl⟩, fun H => .int⟩
      | 1, hj => cases hj; exact ⟨.int 12, _, PySem.W.mg_of X G m1, ⟨tk1, rfl⟩, fun H => .int⟩
      | 2, hj => cases hj; exact ⟨.ref t2, _, PySem.W.mg_of X G m2, rfl, fun H => (.tup (vs := [.str (st [108, 101, 116]), .str (st [105, 110])]) (.inr ⟨_, _, _, mt2, rfl, rfl, by show 2 ≤ sizeLine; rw [sizeLine_eq]; omega, (.cons ⟨tk2_0, by rfl⟩ (.cons ⟨tk2_1, by rfl⟩ .nil))⟩) (.cons .str (.cons .str .nil)))⟩
      | 3, hj => cases hj; exact ⟨.str (st [97, 98, 99, 100, 101, 102, 103, 104, 105, 106, 107, 108, 109, 110, 111, 112, 113, 114, 115, 116, 117, 118, 119, 120, 121, 122]), _, PySem.W.mg_of X G m3, ⟨tk3, by rfl⟩, fun H => .str⟩
      | 4, hj => cases hj; exact ⟨.str (st [48, 49, 50, 51, 52, 53, 54, 55, 56, 57]), _, PySem.W.mg_of X G m4, ⟨tk4, by rfl⟩, fun H => .str⟩
      | 5, hj => cases hj; exact ⟨.str (st [92, 46, 40, 41, 61]), _, PySem.W.mg_of X G m5, ⟨tk5, by rfl⟩, fun H => .str⟩
      | j + 6, hj => cases hj
    · have hj : (none : Option (Str × List (List Nat × D))) = some (x, d) := hj
      cases hj
    · have hc : ni c = true := hc
      unfold ni at hc
      split at hc
      · cases hc
  have XA : ∀ (base : Heap) n, Xal P w K mg base (mkZ K (fun c => [C0, C1, C2].getD c 0) (fun i => [f0, f1, f2, f3, f4, f5, f6, f7, f8, f9, f10, f11, f12, f13].getD i 0)) (lvl prg n) := by
    intro base n
    have ef : (lvl prg n).xfl = xfl := by cases n <;> rfl
    have es : (lvl prg n).xsub = xsub := by cases n <;> rfl
    refine ⟨fun c hc hl => ?_, fun c hc hl => ?_, fun c hc c' hc' => ?_, fun f hf => ⟨?_, fun c hc => ?_⟩⟩
    · match c, hc, hl with
      | 0, h, _ => exact absurd (show 1 ≤ 0 from h.1) (by omega)
      | 1, hc, hl => exact ⟨hc, hl, q1, ex1, ty1⟩
      | 2, _, hl => rw [ef] at hl; cases hl
      | c + 3, h, _ => exact absurd (show c + 3 < 3 from h.2) (by omega)
    · match c, hc, hl with
      | 0, h, _ => exact absurd (show 1 ≤ 0 from h.1) (by omega)
      | 1, _, hl => exact absurd (by rw [ef]; rfl) hl
      | 2, hc, hl =>
        refine ⟨hc, by rw [ef]; show ∀ f ∈ xfl 2, f < 6; decide, by rw [ef]; decide, T2, g2, _, _, xi2, xt2, ?_, Bx2⟩
        rw [ef]
        exact ok_ini1 (f1 := "line")  Fx2 ⟨rfl, rfl, rfl, by decide +kernel, rfl, by decide +kernel, by decide +kernel⟩ T2 xn2_0 fun cdv A outer s H E => (pss_cons (ps_ost (pv 0) (pv 1) rfl) pss_nil)
      | c + 3, h, _ => exact absurd (show c + 3 < 3 from h.2) (by omega)
    · rw [es]
      match c, hc, c', hc' with
      | 0, h, _, _ => exact absurd (show 1 ≤ 0 from h.1) (by omega)
      | _, _, 0, h => exact absurd (show 1 ≤ 0 from h.1) (by omega)
      | 1, _, 1, _ => exact em1_1
      | 2, _, 1, _ => exact em1_2
      | 1, _, 2, _ => exact em2_1
      | 2, _, 2, _ => exact em2_2
      | c + 3, h, _, _ => exact absurd (show c + 3 < 3 from h.2) (by omega)
      | _, _, c + 3, h => exact absurd (show c + 3 < 3 from h.2) (by omega)
    · exact Nat.lt_of_lt_of_le (show f < 1 from hf) (by show 1 ≤ 6; decide)
    · match f, hf, c, hc with
      | 0, _, 1, _ => exact ⟨ga1, gg1, xn1_0, ex1, xd1⟩
      | 0, _, 2, _ => exact ⟨ga2, gg2, xn2_0, ex2, xd2⟩
      | _, _, 0, h => exact absurd (show 1 ≤ 0 from h.1) (by omega)
      | _, _, c + 3, h => exact absurd (show c + 3 < 3 from h.2) (by omega)
      | f + 1, h, _, _ => exact absurd (show f + 1 < 1 from h) (by omega)
  refine ⟨PySem.W.fnOf "law" "law" (defArgs s8) (defBody s8) (defScope s8) .none kV8 dc8 pm8 an8 cd8 ct8, fun s v => .of_eq rfl, fun base KB GB => ?_⟩
  have SD : Std P w K mg base (mkZ K (fun c => [C0, C1, C2].getD c 0) (fun i => [f0, f1, f2, f3, f4, f5, f6, f7, f8, f9, f10, f11, f12, f13].getD i 0)) prg := by
    refine ⟨rfl, fun c hc => ?_, fun c f hc hf => ?_, fun c m i h => ?_, fun c m i h f hf => ?_, fun c i h => ?_, fun i L m b h => ?_⟩
    · match c, hc with
      | 0, _ => exact ⟨pg0, hd0, po0, sa0⟩
      | c + 1, hc => exact absurd (show c + 1 < 1 from hc) (by omega)
    · match c, hc, f, hf with
      | 0, _, 0, _ => exact n0_0
      | 0, _, 1, _ => exact n0_1
      | 0, _, 2, _ => exact n0_2
      | 0, _, 3, _ => exact n0_3
      | 0, _, 4, _ => exact n0_4
      | 0, _, 5, _ => exact n0_5
      | c + 1, hc, _, _ => exact absurd (show c + 1 < 1 from hc) (by omega)
      | _, _, f + 6, hf => exact absurd (show f + 6 < 6 from hf) (by omega)
    · have h : mt c m = some i := h
      unfold mt at h
      split at h <;> cases h
      · exact ⟨a0_9, i9, k9⟩
      · exact ⟨a0_10, i10, k10⟩
      · exact ⟨a0_11, i11, k11⟩
      · exact ⟨a0_12, i12, k12⟩
      · exact ⟨a0_13, i13, k13⟩
    · have h : mt c m = some i := h
      unfold mt at h
      split at h <;> cases h
      · exact mn_fld0 f hf
      · exact mn_fld1 f hf
      · exact mn_fld2 f hf
      · exact mn_fld3 f hf
      · exact mn_fld4 f hf
    · have h : io c = some i := h
      unfold io at h
      split at h <;> cases h
      · exact ⟨by show 0 < 1; decide, mk0, a0_9, i9, kC0⟩
    · match i, h with
      | 0, h =>
        cases h
        exact ⟨"tokens", "tokens", s0, ["text", "found", "reader"], ["text"], _, F0, ⟨rfl, rfl, rfl, by decide +kernel, rfl, by decide +kernel, by decide +kernel⟩, B0, rfl, rfl, fun n cdv A outer s H E M => d0 M (XA base n)⟩
      | 1, h =>
        cases h
        exact ⟨"_law_bag", "_law_bag", s1, ["script", "k", "cell"], ["script", "k"], _, F1, ⟨rfl, rfl, rfl, by decide +kernel, rfl, by decide +kernel, by decide +kernel⟩, B1, rfl, rfl, fun n cdv A outer s H E M => d1 M (XA base n)⟩
      | 2, h =>
        cases h
        exact ⟨"_law_draw", "_law_draw", s2, ["bag", "many", "rest", "seed"], ["bag", "many"], _, F2, ⟨rfl, rfl, rfl, by decide +kernel, rfl, by decide +kernel, by decide +kernel⟩, B2, rfl, rfl, fun n cdv A outer s H E M => d2 M (XA base n)⟩
      | 3, h =>
        cases h
        exact ⟨"_law_one", "_law_one", s3, ["bag", "row"], ["bag", "row"], _, F3, ⟨rfl, rfl, rfl, by decide +kernel, rfl, by decide +kernel, by decide +kernel⟩, B3, rfl, rfl, fun n cdv A outer s H E M => d3 M (XA base n)⟩
      | 4, h =>
        cases h
        exact ⟨"_law_gap", "_law_gap", s4, ["bag", "left", "right", "signs", "needed", "pick"], ["bag", "left", "right"], _, F4, ⟨rfl, rfl, rfl, by decide +kernel, rfl, by decide +kernel, by decide +kernel⟩, B4, rfl, rfl, fun n cdv A outer s H E M => d4 M (XA base n)⟩
      | 5, h =>
        cases h
        exact ⟨"_law_laid", "_law_laid", s5, ["bag", "words", "text", "lines", "k"], ["bag", "words"], _, F5, ⟨rfl, rfl, rfl, by decide +kernel, rfl, by decide +kernel, by decide +kernel⟩, B5, rfl, rfl, fun n cdv A outer s H E M => d5 M (XA base n)⟩
      | 6, h =>
        cases h
        exact ⟨"_law_word", "_law_word", s6, ["bag", "pick", "word", "k"], ["bag"], _, F6, ⟨rfl, rfl, rfl, by decide +kernel, rfl, by decide +kernel, by decide +kernel⟩, B6, rfl, rfl, fun n cdv A outer s H E M => d6 M (XA base n)⟩
      | 7, h =>
        cases h
        exact ⟨"_law_told", "_law_told", s7, ["text", "e"], ["text"], _, F7, ⟨rfl, rfl, rfl, by decide +kernel, rfl, by decide +kernel, by decide +kernel⟩, B7, rfl, rfl, fun n cdv A outer s H E M => d7 M (XA base n)⟩
      | 8, h =>
        cases h
        exact ⟨"law", "law", s8, ["script", "odd", "k", "bag", "words", "bad", "due", "text", "lines", "j"], ["script"], _, F8, ⟨rfl, rfl, rfl, by decide +kernel, rfl, by decide +kernel, by decide +kernel⟩, B8, rfl, rfl, fun n cdv A outer s H E M => d8 M (XA base n)⟩
      | 9, h =>
        cases h
        exact ⟨"__init__", "Tokens.__init__", s9, ["self", "text"], ["self", "text"], _, F9, ⟨rfl, rfl, rfl, by decide +kernel, rfl, by decide +kernel, by decide +kernel⟩, B9, rfl, rfl, fun n cdv A outer s H E M => d9 M (XA base n)⟩
      | 10, h =>
        cases h
        exact ⟨"refuse", "Tokens.refuse", s10, ["self"], ["self"], _, F10, ⟨rfl, rfl, rfl, by decide +kernel, rfl, by decide +kernel, by decide +kernel⟩, B10, rfl, rfl, fun n cdv A outer s H E M => d10 M (XA base n)⟩
      | 11, h =>
        cases h
        exact ⟨"go_on", "Tokens.go_on", s11, ["self", "text"], ["self"], _, F11, ⟨rfl, rfl, rfl, by decide +kernel, rfl, by decide +kernel, by decide +kernel⟩, B11, rfl, rfl, fun n cdv A outer s H E M => d11 M (XA base n)⟩
      | 12, h =>
        cases h
        exact ⟨"_skip", "Tokens._skip", s12, ["self", "text", "comment", "sign"], ["self"], _, F12, ⟨rfl, rfl, rfl, by decide +kernel, rfl, by decide +kernel, by decide +kernel⟩, B12, rfl, rfl, fun n cdv A outer s H E M => d12 M (XA base n)⟩
      | 13, h =>
        cases h
        exact ⟨"_take", "Tokens._take", s13, ["self", "signs", "end"], ["self", "signs"], _, F13, ⟨rfl, rfl, rfl, by decide +kernel, rfl, by decide +kernel, by decide +kernel⟩, B13, rfl, rfl, fun n cdv A outer s H E M => d13 M (XA base n)⟩
      | i + 14, h => cases h
  have FX := fn_lvl (n := 679) (i := 8) (st := s8) (N := ["script", "odd", "k", "bag", "words", "bad", "due", "text", "lines", "j"]) (ps := ["script"]) (lvl_ok SD TB 679) TB rfl F8 ⟨rfl, rfl, rfl, by decide +kernel, rfl, by decide +kernel, by decide +kernel⟩ rfl rfl (fun cdv A outer s H E M => d8 M (XA base 679))
  exact FX.imp fun vs H Q E h => sp_out nl pure vs H Q E h
end K02
end Mini
end L2
open PySem PySem.W PyProof.Rows
set_option maxRecDepth 100000 in
set_option maxHeartbeats 0 in
theorem PySem.Challenge.cw_normalhouse_k02_tokens_holds : PySem.Challenge.rw_normalhouse_k02_tokens.Holds := by
  w_on; o_law; k_head; (case hw => w_witness2)
  k_fill
  refine L2.Mini.walkM (l := PySem.Challenge.rw_normalhouse_k02_tokens) (j := 682) (k := 231) rfl rfl ⟨rfl, by decide, by decide⟩ (by decide) (by decide) (fun w h Y => PySem.W.kIn_of Y) ?F
  case F =>
    intro w mg fa h KX G hmg
    refine' L2.Mini.K02.all_mk KX G hmg L2.Mini.K02.pure_law ?aC0 ?kC0 ?aC1 ?kC1 ?aC2 ?kC2 ?a0_9 ?a0_10 ?a0_11 ?a0_12 ?a0_13 ?a0 ?l0 ?c0 ?k0 ?a1 ?l1 ?c1 ?k1 ?a2 ?l2 ?c2 ?k2 ?a3 ?l3 ?c3 ?k3 ?a4 ?l4 ?c4 ?k4 ?a5 ?l5 ?c5 ?k5 ?a6 ?l6 ?c6 ?k6 ?a7 ?l7 ?c7 ?k7 ?a8 ?l8 ?c8 ?k8 ?i9 ?l9 ?c9 ?k9 ?i10 ?l10 ?c10 ?k10 ?i11 ?l11 ?c11 ?k11 ?i12 ?l12 ?c12 ?k12 ?i13 ?l13 ?c13 ?k13 ?pg0 ?hd0 ?po0 ?sa0 ?mk0 ?n0_0 ?n0_1 ?n0_2 ?n0_3 ?n0_4 ?n0_5 ?q1 ?ex1 ?ty1 ?ic1 ?su1_1 ?su1_2 ?ga1 ?gg1 ?xd1 ?xn1_0 ?ex2 ?ty2 ?ic2 ?su2_1 ?su2_2 ?ga2 ?gg2 ?xd2 ?xn2_0 ?xL2 ?xr2 ?xs2 ?xi2 ?xt2 ?lx2 ?cx2 ?kx2 ?b0 ?b1 ?b2 ?b3 ?b4 ?m0 ?m1 ?m2 ?mt2 ?m3 ?m4 ?m5 ?nl
    (case aC0 => k_is)
    (case kC0 => k_is)
    (case aC1 => k_is)
    (case kC1 => k_is)
    (case aC2 => k_is)
    (case kC2 => k_is)
    (case a0_9 => k_is)
    (case a0_10 => k_is)
    (case a0_11 => k_is)
    (case a0_12 => k_is)
    (case a0_13 => k_is)
    (case a0 => k_is)
    (case l0 => k_is)
    (case c0 => k_is)
    (case k0 => k_is)
    (case a1 => k_is)
    (case l1 => k_is)
    (case c1 => k_is)
    (case k1 => k_is)
    (case a2 => k_is)
    (case l2 => k_is)
    (case c2 => k_is)
    (case k2 => k_is)
    (case a3 => k_is)
    (case l3 => k_is)
    (case c3 => k_is)
    (case k3 => k_is)
    (case a4 => k_is)
    (case l4 => k_is)
    (case c4 => k_is)
    (case k4 => k_is)
    (case a5 => k_is)
    (case l5 => k_is)
    (case c5 => k_is)
    (case k5 => k_is)
    (case a6 => k_is)
    (case l6 => k_is)
    (case c6 => k_is)
    (case k6 => k_is)
    (case a7 => k_is)
    (case l7 => k_is)
    (case c7 => k_is)
    (case k7 => k_is)
    (case a8 => k_is)
    (case l8 => k_is)
    (case c8 => k_is)
    (case k8 => k_is)
    (case i9 => k_is)
    (case l9 => k_is)
    (case c9 => k_is)
    (case k9 => k_is)
    (case i10 => k_is)
    (case l10 => k_is)
    (case c10 => k_is)
    (case k10 => k_is)
    (case i11 => k_is)
    (case l11 => k_is)
    (case c11 => k_is)
    (case k11 => k_is)
    (case i12 => k_is)
    (case l12 => k_is)
    (case c12 => k_is)
    (case k12 => k_is)
    (case i13 => k_is)
    (case l13 => k_is)
    (case c13 => k_is)
    (case k13 => k_is)
    (case pg0 => k_is)
    (case hd0 => k_is)
    (case po0 => k_is)
    (case sa0 => k_is)
    (case mk0 => k_is)
    (case n0_0 => k_is)
    (case n0_1 => k_is)
    (case n0_2 => k_is)
    (case n0_3 => k_is)
    (case n0_4 => k_is)
    (case n0_5 => k_is)
    (case q1 => k_exc)
    (case ex1 => k_is)
    (case ty1 => k_is)
    (case ic1 => k_is)
    (case su1_1 => k_is)
    (case su1_2 => k_is)
    (case ga1 => k_is)
    (case gg1 => k_is)
    (case xd1 => k_is)
    (case xn1_0 => k_is)
    (case ex2 => k_is)
    (case ty2 => k_is)
    (case ic2 => k_is)
    (case su2_1 => k_is)
    (case su2_2 => k_is)
    (case ga2 => k_is)
    (case gg2 => k_is)
    (case xd2 => k_is)
    (case xn2_0 => k_is)
    (case xL2 => k_is)
    (case xr2 => decide +kernel)
    (case xs2 => k_is)
    (case xi2 => k_is)
    (case xt2 => k_is)
    (case lx2 => k_is)
    (case cx2 => k_is)
    (case kx2 => k_is)
    (case b0 => k_is)
    (case b1 => k_is)
    (case b2 => k_is)
    (case b3 => k_is)
    (case b4 => k_is)
    (case m0 => k_is)
    (case m1 => k_is)
    (case m2 => k_is)
    (case mt2 => k_is)
    (case m3 => k_is)
    (case m4 => k_is)
    (case m5 => k_is)
    (case nl => rfl)
