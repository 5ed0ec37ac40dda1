import PyProof.Rows.All
import Wide.All
import OpenK.AllK
import Wide.FinOn
import HandS.ForMost
import HandS.ForExc
import HandS.ExcInit
import HandS.TryMany
import HandS.CallLocal
import HandS.Small
import HandS.IsInst
import HandS.Flow
import HandS.RaiseMore
import HandS.TupAny
import HandS.Deep
import HandS.TupMul
import HandS.SortInts
import HandS.DictComp
import HandS.SetKeys
import HandS.Rev
import HandS.Zip
import KE.KDictZip
import HandS.Zip0
import HandS.OwnIter
import PyProof.ListNew
import PyProof.StrBlock2
import PyProof.Rows.StrJoinRep
import HandS.Style
import PySem.Challenge.RW_normalhouse_k49_code_as_texts
set_option Elab.async false
set_option linter.all false
set_option maxRecDepth 100000
set_option maxHeartbeats 4000000
/-! Mini, part A: plain data (tuples by value), a store of mutable cells, how they lie in the abstract heap -/
namespace L2
namespace Mini
open PySem PySem.Spec PyProof.Rows
/-- plain data; a text is its list of codes; a list, a dict, an instance is known by its address -/
inductive D where
  | non | bl (b : Bool) | int (i : Int) | str (l : List Nat) | tup (ds : List D) | ref (a : Addr) | fn (f : Nat)
/-- keys of dicts -/
abbrev Ky := Sum Int (List Nat)
/-- what stands in the store: a list, a list that is only read (the script), a dict with int and text keys, an instance -/
inductive Cell where
  | lst (ds : List D) | fls (ds : List D) | dct (kvs : List (Ky × D)) | ins (c : Nat) (fs : List (Nat × D))
abbrev Sto := Addr → Option Cell
def Sto.upd (S : Sto) (a : Addr) (c : Cell) : Sto := fun b => if b = a then some c else S b
theorem Sto.upd_same {S : Sto} {a : Addr} {c : Cell} : S.upd a c a = some c := by unfold Sto.upd; rw [if_pos rfl]
theorem Sto.upd_ne {S : Sto} {a b : Addr} {c : Cell} (h : b ≠ a) : S.upd a c b = S b := by unfold Sto.upd; rw [if_neg h]
/-- names by number: attributes, classes, functions -/
structure Nm where
  K : PySem.W.Frag
  fld : Nat → Str
  cla : Nat → Addr
  fa : Nat → Addr
  mn : Nat → Str
  nc : Nat
  nx : Nat
  nf : Nat
  nfx : Nat
  fnn : Nat → Str
  cln : Nat → Str
  nob : List Str
  con : Nat → Option (Str × D)
  nfn : Nat
  xfl : Nat → List Nat
  ni : Nat → Bool
  inj : ∀ i j, i < nf → j < nf → fld i = fld j → i = j
  par : Option Params := none
  kdc : Nat → Option (Str × List (List Nat × D)) := fun _ => none
/-- a text's codes as the model has it -/
def st (l : List Nat) : Str := ⟨l.toArray⟩
theorem st_inj {a b : List Nat} (h : st a = st b) : a = b := by
  have q : a.toArray = b.toArray := congrArg Str.cps h
  simpa using congrArg Array.toList q
theorem st_cps (l : List Nat) : (st l).cps.toList = l := by simp [st]
theorem st_of (x : Str) : st x.cps.toList = x := by cases x; simp [st]
theorem st_length (l : List Nat) : (st l).length = l.length := by
  show (st l).cps.size = l.length
  simp [st]
/-- a tuple stands at a: tracked, or of the module -/
def TupAt (K : PySem.W.Frag) (H : Hp) (a : Addr) (vs : List V) : Prop :=
  H a = some (.tup vs) ∨ ∃ (o : Obj) (its : Array Value) (n : Nat), K.lookup a = some o ∧ o.cls = .type "tuple" ∧ o.data = .seq its n ∧ its.size ≤ sizeLine ∧ Vals vs its.toList
theorem TupAt.sq {K : PySem.W.Frag} {H : Hp} {a : Addr} {vs : List V} (h : TupAt K H a vs) : SqT K H a vs := by
  rcases h with h | h
  · exact SqT.of h
  · exact .inr h
mutual
inductive RD (Z : Nm) (H : Hp) : D → V → Prop
  | non : RD Z H .non .non
  | bl {b} : RD Z H (.bl b) (.bl b)
  | int {i} : RD Z H (.int i) (.int i)
  | str {l} : RD Z H (.str l) (.str (st l))
  | tup {ds vs a} : TupAt Z.K H a vs → RDs Z H ds vs → RD Z H (.tup ds) (.ref a)
  | ref {a} : RD Z H (.ref a) (.ref a)
  | fn {f} : RD Z H (.fn f) (.ref (Z.fa f))
inductive RDs (Z : Nm) (H : Hp) : List D → List V → Prop
  | nil : RDs Z H [] []
  | cons {d v ds vs} : RD Z H d v → RDs Z H ds vs → RDs Z H (d :: ds) (v :: vs)
end
/-- the tuples stay -/
def TK (H H' : Hp) : Prop := ∀ a vs, H a = some (.tup vs) → H' a = some (.tup vs)
theorem TK.refl (H : Hp) : TK H H := fun _ _ h => h
theorem TK.trans {H H1 H2 : Hp} (a : TK H H1) (b : TK H1 H2) : TK H H2 := fun c vs h => b c vs (a c vs h)
theorem TupAt.keep {K : PySem.W.Frag} {H H' : Hp} {a : Addr} {vs : List V} (k : TK H H') (h : TupAt K H a vs) : TupAt K H' a vs := by
  rcases h with h | h
  · exact .inl (k a vs h)
  · exact .inr h
mutual
theorem RD.keep {Z : Nm} {H H' : Hp} (k : TK H H') : ∀ {d : D} {v : V}, RD Z H d v → RD Z H' d v
  | _, _, .non => .non
  | _, _, .bl => .bl
  | _, _, .int => .int
  | _, _, .str => .str
  | _, _, .tup t r => .tup (t.keep k) (RDs.keep k r)
  | _, _, .ref => .ref
  | _, _, .fn => .fn
theorem RDs.keep {Z : Nm} {H H' : Hp} (k : TK H H') : ∀ {ds : List D} {vs : List V}, RDs Z H ds vs → RDs Z H' ds vs
  | _, _, .nil => .nil
  | _, _, .cons r t => .cons (RD.keep k r) (RDs.keep k t)
end
section
variable {Z : Nm} {H : Hp}
theorem RDs.length : ∀ {ds : List D} {vs : List V}, RDs Z H ds vs → ds.length = vs.length
  | _, _, .nil => rfl
  | _, _, .cons _ t => congrArg Nat.succ (RDs.length t)
theorem RDs.append : ∀ {ds es : List D} {vs us : List V}, RDs Z H ds vs → RDs Z H es us → RDs Z H (ds ++ es) (vs ++ us)
  | _, _, _, _, .nil, s => s
  | _, _, _, _, .cons r t, s => .cons r (RDs.append t s)
theorem RDs.get : ∀ {ds : List D} {vs : List V} {i : Nat} {d : D}, RDs Z H ds vs → ds[i]? = some d → ∃ v, vs[i]? = some v ∧ RD Z H d v
  | _, _, _, _, .nil, e => by simp at e
  | _, _, 0, _, .cons r _, e => by simp at e; subst e; exact ⟨_, rfl, r⟩
  | _, _, i + 1, d, .cons _ t, e => by
    obtain ⟨v, h1, h2⟩ := RDs.get (i := i) (d := d) t (by simpa using e)
    exact ⟨v, by simpa using h1, h2⟩
theorem RDs.getV : ∀ {ds : List D} {vs : List V} {i : Nat} {v : V}, RDs Z H ds vs → vs[i]? = some v → ∃ d, ds[i]? = some d ∧ RD Z H d v
  | _, _, _, _, .nil, e => by simp at e
  | _, _, 0, _, .cons r _, e => by simp at e; subst e; exact ⟨_, rfl, r⟩
  | _, _, i + 1, d, .cons _ t, e => by
    obtain ⟨v, h1, h2⟩ := RDs.getV (i := i) (v := d) t (by simpa using e)
    exact ⟨v, by simpa using h1, h2⟩
theorem RDs.take : ∀ {ds : List D} {vs : List V} (n : Nat), RDs Z H ds vs → RDs Z H (ds.take n) (vs.take n)
  | _, _, 0, _ => .nil
  | _, _, _ + 1, .nil => .nil
  | _, _, n + 1, .cons r t => .cons r (RDs.take n t)
theorem RDs.drop : ∀ {ds : List D} {vs : List V} (n : Nat), RDs Z H ds vs → RDs Z H (ds.drop n) (vs.drop n)
  | _, _, 0, r => r
  | _, _, _ + 1, .nil => .nil
  | _, _, n + 1, .cons _ t => RDs.drop n t
theorem RDs.set {d : D} {v : V} (r : RD Z H d v) : ∀ {ds : List D} {vs : List V} (i : Nat), RDs Z H ds vs → RDs Z H (ds.set i d) (vs.set i v)
  | _, _, _, .nil => .nil
  | _, _, 0, .cons _ t => .cons r t
  | _, _, i + 1, .cons q t => .cons q (RDs.set r i t)
theorem RDs.dropLast : ∀ {ds : List D} {vs : List V}, RDs Z H ds vs → RDs Z H ds.dropLast vs.dropLast
  | _, _, .nil => .nil
  | _, _, .cons _ .nil => .nil
  | _, _, .cons r (.cons q t) => .cons r (RDs.dropLast (.cons q t))
theorem RDs.eraseIdx : ∀ {ds : List D} {vs : List V} (i : Nat), RDs Z H ds vs → RDs Z H (ds.eraseIdx i) (vs.eraseIdx i)
  | _, _, _, .nil => .nil
  | _, _, 0, .cons r t => t
  | _, _, i + 1, .cons r t => .cons r (RDs.eraseIdx i t)
theorem RDs.reverse {ds : List D} {vs : List V} (h : RDs Z H ds vs) : RDs Z H ds.reverse vs.reverse := by
  induction ds generalizing vs with
  | nil => cases h; exact .nil
  | cons d ds ih =>
    cases h with
    | cons r t =>
      rw [List.reverse_cons, List.reverse_cons]
      exact (ih t).append (.cons r .nil)
theorem RDs.nil_iff {ds : List D} {vs : List V} (h : RDs Z H ds vs) : ds = [] ↔ vs = [] := by cases h <;> simp
theorem RDs.one {d : D} {vs : List V} (h : RDs Z H [d] vs) : ∃ v, vs = [v] ∧ RD Z H d v := by
  cases h with
  | cons r t => cases t; exact ⟨_, rfl, r⟩
theorem RDs.two {d e : D} {vs : List V} (h : RDs Z H [d, e] vs) : ∃ v u, vs = [v, u] ∧ RD Z H d v ∧ RD Z H e u := by
  cases h with
  | cons r t => cases t with | cons r2 t => cases t; exact ⟨_, _, rfl, r, r2⟩
theorem RDs.rep {ds : List D} {vs : List V} (h : RDs Z H ds vs) : ∀ k : Nat, RDs Z H (List.replicate k ds).flatten (List.replicate k vs).flatten
  | 0 => .nil
  | k + 1 => by simp only [List.replicate_succ, List.flatten_cons]; exact h.append (RDs.rep h k)
end
/-- keys -/
def kyS : Ky → Key
  | .inl i => .inl i
  | .inr l => .inr (st l)
theorem kyS_inj {a b : Ky} (h : kyS a = kyS b) : a = b := by
  cases a with
  | inl i => cases b with
    | inl j => exact congrArg Sum.inl (Sum.inl.inj h)
    | inr l => exact nomatch h
  | inr k => cases b with
    | inl j => exact nomatch h
    | inr l => exact congrArg Sum.inr (st_inj (Sum.inr.inj h))
/-- attributes, pairs of a dict -/
inductive RF (Z : Nm) (H : Hp) : List (Nat × D) → List (Str × V) → Prop
  | nil : RF Z H [] []
  | cons {i d v fs gs} : i < Z.nf → RD Z H d v → RF Z H fs gs → RF Z H ((i, d) :: fs) ((Z.fld i, v) :: gs)
inductive RK (Z : Nm) (H : Hp) : List (Ky × D) → List (Key × V) → Prop
  | nil : RK Z H [] []
  | cons {k d v ks gs} : RD Z H d v → RK Z H ks gs → RK Z H ((k, d) :: ks) ((kyS k, v) :: gs)
theorem RF.keep {Z : Nm} {H H' : Hp} (k : TK H H') : ∀ {fs : List (Nat × D)} {gs : List (Str × V)}, RF Z H fs gs → RF Z H' fs gs
  | _, _, .nil => .nil
  | _, _, .cons l r t => .cons l (r.keep k) (RF.keep k t)
theorem RK.keep {Z : Nm} {H H' : Hp} (k : TK H H') : ∀ {fs : List (Ky × D)} {gs : List (Key × V)}, RK Z H fs gs → RK Z H' fs gs
  | _, _, .nil => .nil
  | _, _, .cons r t => .cons (r.keep k) (RK.keep k t)
def CellAt (Z : Nm) (H : Hp) (a : Addr) : Cell → Prop
  | .lst ds => ∃ vs, H a = some (.lst vs) ∧ RDs Z H ds vs
  | .fls ds => ∃ o vs, H a = some (.frz o (.lst vs)) ∧ RDs Z H ds vs
  | .dct kvs => ∃ gs, H a = some (.dK gs) ∧ RK Z H kvs gs
  | .ins c fs => c < Z.nc ∧ ∃ dx gs, H a = some (.ins (Z.cla c) dx gs) ∧ RF Z H fs gs
def SR (Z : Nm) (S : Sto) (H : Hp) : Prop := ∀ a c, S a = some c → CellAt Z H a c
theorem CellAt.has {Z : Nm} {H : Hp} {a : Addr} {c : Cell} (h : CellAt Z H a c) : ∃ o, H a = some o := by
  cases c with
  | lst ds => obtain ⟨_, e, _⟩ := h; exact ⟨_, e⟩
  | fls ds => obtain ⟨_, _, e, _⟩ := h; exact ⟨_, e⟩
  | dct kvs => obtain ⟨_, e, _⟩ := h; exact ⟨_, e⟩
  | ins c fs => obtain ⟨_, _, _, e, _⟩ := h; exact ⟨_, e⟩
theorem SR.free {Z : Nm} {S : Sto} {H : Hp} (h : SR Z S H) {p : Addr} (n : H p = none) : S p = none := by
  cases e : S p with
  | none => rfl
  | some c => obtain ⟨o, q⟩ := CellAt.has (h p c e); rw [n] at q; cases q
theorem CellAt.keep {Z : Nm} {H H' : Hp} {a : Addr} {c : Cell} (h : CellAt Z H a c) (k : TK H H') (e : ∀ o, H a = some o → H' a = some o) : CellAt Z H' a c := by
  cases c with
  | lst ds => obtain ⟨vs, q, r⟩ := h; exact ⟨vs, e _ q, r.keep k⟩
  | fls ds => obtain ⟨o, vs, q, r⟩ := h; exact ⟨o, vs, e _ q, r.keep k⟩
  | dct kvs => obtain ⟨gs, q, r⟩ := h; exact ⟨gs, e _ q, r.keep k⟩
  | ins c fs => obtain ⟨n, dx, gs, q, r⟩ := h; exact ⟨n, dx, gs, e _ q, r.keep k⟩
/-- a new object -/
theorem TK.new {H : Hp} {p : Addr} {o : HO} (n : H p = none) : TK H (upd H p o) := fun a vs h => by rw [upd_ne (ne_of_none h n)]; exact h
theorem SR.same {Z : Nm} {S : Sto} {H H' : Hp} (h : SR Z S H) (e : ∀ a o, H a = some o → H' a = some o) : SR Z S H' := fun a c q =>
  CellAt.keep (h a c q) (fun b vs z => e b _ z) fun o z => e a o z
theorem new_same {H : Hp} {p : Addr} {o : HO} (n : H p = none) : ∀ a u, H a = some u → upd H p o a = some u := fun a u h => by rw [upd_ne (ne_of_none h n)]; exact h
theorem SR.new {Z : Nm} {S : Sto} {H : Hp} {p : Addr} {o : HO} (h : SR Z S H) (n : H p = none) : SR Z S (upd H p o) := h.same (new_same n)
/-- what is mutable -/
def Mu : HO → Prop
  | .lst _ => True
  | .dK _ => True
  | .ins _ _ _ => True
  | _ => False
theorem TK.mut {H : Hp} {p : Addr} {o o' : HO} (e : H p = some o) (m : Mu o) : TK H (upd H p o') := fun a vs h => by
  rw [upd_ne (fun z => by subst z; rw [h] at e; cases e; exact m)]; exact h
/-- a cell written over what was new or mutable -/
theorem SR.put {Z : Nm} {S : Sto} {H : Hp} {p : Addr} {o : HO} {c : Cell} (h : SR Z S H) (k : TK H (upd H p o)) (new : CellAt Z (upd H p o) p c) : SR Z (S.upd p c) (upd H p o) := fun a d q => by
  by_cases e : a = p
  · subst e; rw [Sto.upd_same] at q; cases q; exact new
  · rw [Sto.upd_ne e] at q
    exact CellAt.keep (h a d q) k fun u z => by rw [upd_ne e]; exact z
end Mini
end L2
/-! Mini, part B: the small language and what must hold so that a run of it ends as wanted -/
namespace L2
namespace Mini
open PySem PySem.Spec PyProof.Rows
inductive Bop where | add | sub | mul | fdiv | mod | pow
inductive Cop where | eq | ne | lt | le | gt | ge | is_ | isnot | in_ | notin
/-- built-in functions and classes called -/
inductive Bi where | len | int | max | min | sum | all | any | tuple | list | sortset | repr | str | abs | dict0 | sorted | dict
/-- built-in methods -/
inductive Bm where | append | pop | extend | count | index | split | join | startswith
/-- classes that isinstance asks for -/
inductive Ty where | int | bool | str | tuple | list | exc (c : Nat)
/-- targets: a name, a tuple of names -/
inductive Tg where | nm (i : Nat) | tp (is : List Nat)
mutual
inductive Ex where
  | var (i : Nat) | lit (d : D) | bin (op : Bop) (a b : Ex) | neg (a : Ex) | cmp (op : Cop) (a b : Ex) | chn (o1 o2 : Cop) (a b c : Ex)
  | and (a b : Ex) | or (a b : Ex) | not (a : Ex) | ite (c a b : Ex) | tup (es : Exs) | lst (es : Exs) | dct (ps : Exs) | ix (a i : Ex) | slc (a : Ex) (lo hi : Exo) | rev (a : Ex)
  | att (a : Ex) (f : Nat) | call (f : Nat) (es : Exs) | callv (i : Nat) (es : Exs) | bi (b : Bi) (es : Exs) | isi (a : Ex) (t : Ty) | isi2 (a : Ex) (t u : Ty) | mth (m : Nat) (o : Ex) (es : Exs) | bm (m : Bm) (o : Ex) (es : Exs)
  | new (c : Nat) (es : Exs) | newo (c : Nat) | lc (e : Ex) (t : Tg) (it : Itr) (c : Exo) | dc (k v : Ex) (t : Tg) (it : Itr) (c : Exo) | kin (neg : Bool) (a : Ex) (kvs : List (List Nat × D)) | kix (kvs : List (List Nat × D)) (a : Ex) | lzip (a b : Ex)
inductive Exs where | nil | cons (e : Ex) (es : Exs)
inductive Exo where | none | some (e : Ex)
/-- what a loop goes over -/
inductive Itr where | sq (e : Ex) | rng (b : Ex) | rng2 (a b : Ex) | enum (e : Ex) | zip (a b : Ex)
end
/-- an except suite -/
inductive Se where | lit (d : D) | exf (i f : Nat) | exf2 (i f g : Nat)
inductive Su where | ret (e : Se) | cnt | pass | set (i : Nat) (d : D)
mutual
inductive Stm where
  | set (i : Nat) (e : Ex) | unp (is : List Nat) (e : Ex) | unpl (is : List Nat) (e : Ex) | unpa (o : Ex) (f : Nat) (o2 : Ex) (f2 : Nat) (e : Ex) | setix (o i e : Ex) | setat (o : Ex) (f : Nat) (e : Ex) | aug (i : Nat) (op : Bop) (e : Ex) | augat (o : Ex) (f : Nat) (op : Bop) (e : Ex)
  | ife (c : Ex) (a b : Stms) | whl (c : Ex) (b : Stms) | for_ (t : Tg) (it : Itr) (b : Stms) | ret (e : Ex) | brk | cnt | pass | ex (e : Ex) | raise (c : Nat) (es : Exs) | try_ (b : Stms) (hs : List (Nat × Su))
inductive Stms where | nil | cons (s : Stm) (ss : Stms)
end
abbrev Env := List (Option D)
def Env.get (σ : Env) (i : Nat) : Option D := match σ[i]? with | some (some d) => some d | _ => none
/-- an exception: its class, its fields -/
structure Xn where
  c : Nat
  fs : List (Nat × D)
abbrev QD := D → Sto → Prop
abbrev QX := Xn → Sto → Prop
abbrev Spec := List D → Sto → QD → QX → Prop
/-- what the defs promise; fn: by number; ini: the __init__ of a class (one level lower); mt: which def a class has by a method's name; xcls: the fields of an exception's class; xsub: subclasses -/
structure Gam where
  fn : Nat → Spec
  ini : Nat → Spec
  mt : Nat → Nat → Option Nat
  xfl : Nat → List Nat
  xsub : Nat → Nat → Bool
  nfn : Nat
/-! ### values -/
def rd (S : Sto) (a : Addr) : Option (List D) := match S a with | some (.lst ds) => some ds | some (.fls ds) => some ds | _ => none
def tru (S : Sto) : D → Option Bool
  | .non => some false
  | .bl b => some b
  | .int i => some (i != 0)
  | .str _ => none
  | .tup ds => some (!ds.isEmpty)
  | .ref a => (rd S a).map fun ds => !ds.isEmpty
  | .fn _ => none
mutual
/-- the data as the library's equality has it -/
inductive PD (S : Sto) : D → PyData → Prop
  | non : PD S .non .none
  | bl {b} : PD S (.bl b) (.bool b)
  | int {i} : PD S (.int i) (.int i)
  | str {l : List Nat} : l.all (fun c => decide (c < 0x110000)) = true → PD S (.str l) (.str (st l))
  | tup {ds ps} : PDs S ds ps → PD S (.tup ds) (.tuple ps)
  | ref {a ds ps} : rd S a = some ds → PDs S ds ps → PD S (.ref a) (.list ps)
inductive PDs (S : Sto) : List D → List PyData → Prop
  | nil : PDs S [] []
  | cons {d p ds ps} : PD S d p → PDs S ds ps → PDs S (d :: ds) (p :: ps)
end
/-- room for an equality -/
def eqRoom (p q : PyData) : Prop := min p.depth q.depth ≤ 620
/-- the answer of x == y -/
inductive Eqv (S : Sto) : D → D → Bool → Prop
  | int {i j} : Eqv S (.int i) (.int j) (i == j)
  | str {a b} : Eqv S (.str a) (.str b) (a == b)
  | dat {x y p q} : PD S x p → PD S y q → eqRoom p q → Eqv S x y (PyData.eqv p q)
def eqW (x y : D) (neg : Bool) (S : Sto) (Q : QD) : Prop :=
  match x, y with
  | .int i, .int j => Q (.bl (neg ^^ (i == j))) S
  | .str a, .str b => Q (.bl (neg ^^ (a == b))) S
  | x, y => ∃ r, Eqv S x y r ∧ Q (.bl (neg ^^ r)) S
def seqOf (S : Sto) : D → Option (List D)
  | .tup ds => some ds
  | .ref a => rd S a
  | _ => none
/-- x in y -/
def dget (kvs : List (Ky × D)) (k : Ky) : Option D := (kvs.find? fun p => decide (p.1 = k)).map (·.2)
def inW (x y : D) (neg : Bool) (S : Sto) (Q : QD) : Prop :=
  match x, y with
  | .str [c], .str b => Q (.bl (neg ^^ b.contains c)) S
  | x, .ref a => match S a with
    | some (.dct kvs) => match x with
      | .int i => Q (.bl (neg ^^ (dget kvs (.inl i)).isSome)) S
      | .str l => Q (.bl (neg ^^ (dget kvs (.inr l)).isSome)) S
      | _ => False
    | some (.lst ds) => ∃ r, InL S x ds r ∧ Q (.bl (neg ^^ r)) S
    | some (.fls ds) => ∃ r, InL S x ds r ∧ Q (.bl (neg ^^ r)) S
    | _ => False
  | x, .tup ds => ∃ r, InL S x ds r ∧ Q (.bl (neg ^^ r)) S
  | _, _ => False
where InL (S : Sto) (x : D) (ds : List D) (r : Bool) : Prop := ∃ p ps, PD S x p ∧ PDs S ds ps ∧ p.depth ≤ 180 ∧ r = ps.any fun q => PyData.eqv q p
def cmpW (op : Cop) (x y : D) (S : Sto) (Q : QD) : Prop :=
  match op with
  | .eq => eqW x y false S Q
  | .ne => eqW x y true S Q
  | .lt => match x, y with | .int i, .int j => Q (.bl (decide (i < j))) S | _, _ => False
  | .le => match x, y with | .int i, .int j => Q (.bl (decide (i ≤ j))) S | _, _ => False
  | .gt => match x, y with | .int i, .int j => Q (.bl (decide (j < i))) S | _, _ => False
  | .ge => match x, y with | .int i, .int j => Q (.bl (decide (j ≤ i))) S | _, _ => False
  | .is_ => match x, y with | .non, .non => Q (.bl true) S | _, .non => Q (.bl false) S | _, _ => False
  | .isnot => match x, y with | .non, .non => Q (.bl false) S | _, .non => Q (.bl true) S | _, _ => False
  | .in_ => inW x y false S Q
  | .notin => inW x y true S Q
/-- a new list, a new dict .. -/
def newW (c : Cell) (S : Sto) (Q : QD) : Prop := ∀ p, S p = none → Q (.ref p) (S.upd p c)
def smallI (i : Int) : Prop := -(2 ^ 64) < i ∧ i < 2 ^ 64
def binW (op : Bop) (x y : D) (S : Sto) (Q : QD) : Prop :=
  match op, x, y with
  | .add, .int i, .int j => Q (.int (i + j)) S
  | .add, .str a, .str b => a.length + b.length ≤ sizeLine ∧ Q (.str (a ++ b)) S
  | .add, .tup a, .tup b => a.length + b.length ≤ sizeLine ∧ Q (.tup (a ++ b)) S
  | .add, .ref a, .ref b => ∃ xs ys, S a = some (.lst xs) ∧ S b = some (.lst ys) ∧ xs.length + ys.length ≤ sizeLine ∧ newW (.lst (xs ++ ys)) S Q
  | .sub, .int i, .int j => Q (.int (i - j)) S
  | .mul, .int i, .int j => (smallI i ∨ smallI j) ∧ Q (.int (i * j)) S
  | .mul, .ref a, .int k => ∃ xs, S a = some (.lst xs) ∧ -(2 ^ 63) ≤ k ∧ k < 2 ^ 63 ∧ xs.length * k.toNat ≤ sizeLine ∧ newW (.lst (List.replicate k.toNat xs).flatten) S Q
  | .mul, .tup xs, .int k => xs ≠ [] ∧ 2 ≤ k ∧ k ≤ 1000 ∧ xs.length ≤ 1000 ∧ Q (.tup (List.replicate k.toNat xs).flatten) S
  | .mul, .str [c], .int k => 0 ≤ k ∧ k ≤ 1000000 ∧ Q (.str (List.replicate k.toNat c)) S
  | .fdiv, .int i, .int j => j ≠ 0 ∧ j.natAbs < 1073741824 ∧ Q (.int (i.fdiv j)) S
  | .mod, .int i, .int j => j ≠ 0 ∧ Q (.int (i.fmod j)) S
  | .pow, .int i, .int j => 0 ≤ j ∧ j ≤ 1000000 ∧ i.natAbs < 2 ^ 64 ∧ Q (.int (i ^ j.toNat)) S
  | _, _, _ => False
/-- a op= b, b not a list -/
def augW (op : Bop) (x y : D) (S : Sto) (Q : QD) : Prop :=
  match op, x, y with
  | .add, .int i, .int j => Q (.int (i + j)) S
  | .add, .str a, .str b => a.length + b.length ≤ sizeLine ∧ Q (.str (a ++ b)) S
  | .sub, .int i, .int j => Q (.int (i - j)) S
  | .add, .tup a, .tup b => a.length + b.length ≤ sizeLine ∧ Q (.tup (a ++ b)) S
  | _, _, _ => False
def ixW (x y : D) (S : Sto) (Q : QD) : Prop :=
  match x, y with
  | .tup ds, .int i => ∃ d, atI ds i = some d ∧ Q d S
  | .str l, .int i => l.length ≤ sizeLine ∧ ∃ c, atI l i = some c ∧ Q (.str [c]) S
  | .ref a, y => match S a, y with
    | some (.lst ds), .int i => ∃ d, atI ds i = some d ∧ Q d S
    | some (.fls ds), .int i => ∃ d, atI ds i = some d ∧ Q d S
    | some (.dct kvs), .int i => ∃ d, dget kvs (.inl i) = some d ∧ Q d S
    | some (.dct kvs), .str l => ∃ d, dget kvs (.inr l) = some d ∧ Q d S
    | _, _ => False
  | _, _ => False
def cutD {α : Type} (xs : List α) (lo hi : Option Int) : List α := (xs.drop (HT.sIx xs.length 0 lo)).take (HT.sIx xs.length xs.length hi - HT.sIx xs.length 0 lo)
def slW (x : D) (lo hi : Option Int) (S : Sto) (Q : QD) : Prop :=
  match x with
  | .tup ds => Q (.tup (cutD ds lo hi)) S
  | .str l => l.length ≤ sizeLine ∧ Q (.str (cutD l lo hi)) S
  | .ref a => ∃ ds, rd S a = some ds ∧ newW (.lst (cutD ds lo hi)) S Q
  | _ => False
def revW (x : D) (S : Sto) (Q : QD) : Prop :=
  match x with
  | .tup ds => Q (.tup ds.reverse) S
  | .ref a => ∃ ds, rd S a = some ds ∧ newW (.lst ds.reverse) S Q
  | _ => False
/-- d[k] = v -/
def dput (kvs : List (Ky × D)) (k : Ky) (v : D) : List (Ky × D) := if (kvs.any fun p => decide (p.1 = k)) = true then kvs.map (fun p => if p.1 = k then (p.1, v) else p) else kvs ++ [(k, v)]
def setixW (o i v : D) (S : Sto) (Q : Sto → Prop) : Prop :=
  match o with
  | .ref a => match S a, i with
    | some (.lst ds), .int k => ∃ j, ixN ds.length k = some j ∧ Q (S.upd a (.lst (ds.set j v)))
    | some (.dct kvs), .int k => kvs.length < sizeLine ∧ Q (S.upd a (.dct (dput kvs (.inl k) v)))
    | some (.dct kvs), .str l => kvs.length < sizeLine ∧ Q (S.upd a (.dct (dput kvs (.inr l) v)))
    | _, _ => False
  | _ => False
def fget : List (Nat × D) → Nat → Option D
  | [], _ => none
  | (g, u) :: r, f => if f = g then some u else fget r f
def fput (f : Nat) (v : D) : List (Nat × D) → List (Nat × D)
  | [] => [(f, v)]
  | (g, u) :: r => if g = f then (f, v) :: r else (g, u) :: fput f v r
def dmerge (kvs more : List (Ky × D)) : List (Ky × D) := more.foldl (fun acc kv => dput acc kv.1 kv.2) kvs
def kyOf : D → Option Ky
  | .int i => some (.inl i)
  | .str l => some (.inr l)
  | _ => none
/-- o.f = v -/
def putatW (x : D) (f : Nat) (v : D) (S : Sto) (Q : Sto → Prop) : Prop :=
  match x with
  | .ref p => match S p with
    | some (.ins c fs) => fs.length < 1000 ∧ Q (S.upd p (.ins c (fput f v fs)))
    | _ => False
  | _ => False
def isiW (x : D) (t : Ty) (S : Sto) : Option Bool :=
  match t, x with
  | .int, .int _ => some true
  | .int, .bl _ => some true
  | .bool, .bl _ => some true
  | .str, .str _ => some true
  | .tuple, .tup _ => some true
  | .list, .ref a => match S a with | some (.lst _) => some true | some (.fls _) => some true | some (.dct _) => some false | _ => none
  | .exc _, _ => none
  | _, .ref a => match S a with | some (.lst _) => some false | some (.fls _) => some false | some (.dct _) => some false | _ => none
  | _, .fn _ => none
  | _, _ => some false
def intsOf : List D → Option (List Int)
  | [] => some []
  | .int i :: r => (intsOf r).map (i :: ·)
  | _ => none
def blsOf : List D → Option (List Bool)
  | [] => some []
  | .bl i :: r => (blsOf r).map (i :: ·)
  | _ => none
/-- a whole number's text -/
def istr (i : Int) : List Nat := ((toString i : String) : Str).cps.toList
def biW (b : Bi) (xs : List D) (S : Sto) (Q : QD) : Prop :=
  match b, xs with
  | .len, [.str l] => l.length ≤ sizeLine ∧ Q (.int l.length) S
  | .len, [.tup ds] => Q (.int ds.length) S
  | .len, [.ref a] => match S a with
    | some (.lst ds) => Q (.int ds.length) S
    | some (.fls ds) => Q (.int ds.length) S
    | some (.dct kvs) => Q (.int kvs.length) S
    | _ => False
  | .int, [.int i] => Q (.int i) S
  | .int, [.bl k] => Q (.int (if k then 1 else 0)) S
  | .int, [.str l] => ∃ n, PySem.intText? (st l) = some n ∧ l.length ≤ 640 ∧ Q (.int n) S
  | .max, [.int i, .int j] => Q (.int (if j > i then j else i)) S
  | .min, [.int i, .int j] => Q (.int (if j < i then j else i)) S
  | .max, [.ref a] => ∃ ds ns, rd S a = some ds ∧ intsOf ds = some ns ∧ 0 < ns.length ∧ ∀ m, m ∈ ns → (∀ y, y ∈ ns → y ≤ m) → Q (.int m) S
  | .min, [.ref a] => ∃ ds ns, rd S a = some ds ∧ intsOf ds = some ns ∧ 0 < ns.length ∧ ∀ m, m ∈ ns → (∀ y, y ∈ ns → m ≤ y) → Q (.int m) S
  | .sum, [.ref a] => ∃ ds ns, rd S a = some ds ∧ intsOf ds = some ns ∧ Q (.int ns.sum) S
  | .all, [.ref a] => ∃ ds bs, rd S a = some ds ∧ blsOf ds = some bs ∧ Q (.bl (bs.all id)) S
  | .any, [.ref a] => ∃ ds bs, rd S a = some ds ∧ blsOf ds = some bs ∧ Q (.bl (bs.any id)) S
  | .tuple, [.ref a] => ∃ ds, rd S a = some ds ∧ Q (.tup ds) S
  | .tuple, [.tup ds] => Q (.tup ds) S
  | .list, [.ref a] => ∃ ds, rd S a = some ds ∧ newW (.lst ds) S Q
  | .list, [.tup ds] => newW (.lst ds) S Q
  | .abs, [.int i] => Q (.int (if i < 0 then -i else i)) S
  | .str, [.int i] => i.natAbs.log2 < 1920 ∧ Q (.str (istr i)) S
  | .str, [.str l] => Q (.str l) S
  | .repr, [.int i] => i.natAbs.log2 < 1920 ∧ Q (.str (istr i)) S
  | .repr, [.bl b] => Q (.str (if b then [84, 114, 117, 101] else [70, 97, 108, 115, 101])) S
  | .sorted, [.ref a] => match S a with
    | some (.dct kvs) => (∃ ns : List Int, kvs.map (·.1) = ns.map Sum.inl ∧ ns.length < 64 ∧ ∀ ys : List Int, ys.Perm ns → ys.Pairwise (· ≤ ·) → newW (.lst (ys.map .int)) S Q) ∨ (∃ ls : List (List Nat), kvs.map (·.1) = ls.map Sum.inr ∧ ls.length < 64 ∧ ∀ ys : List (List Nat), ys.Perm ls → sortedS (ys.map st) = true → newW (.lst (ys.map .str)) S Q)
    | some (.lst ds) => (∃ ns, intsOf ds = some ns ∧ ∀ ys : List Int, ys.Perm ns → ys.Pairwise (· ≤ ·) → newW (.lst (ys.map .int)) S Q) ∨ (∃ ls : List (List Nat), ds = ls.map .str ∧ ls.length < 64 ∧ ∀ ys : List (List Nat), ys.Perm ls → sortedS (ys.map st) = true → newW (.lst (ys.map .str)) S Q)
    | _ => False
  | .dict, [.ref a] => match S a with
    | some (.dct kvs) => newW (.dct kvs) S Q
    | _ => False
  | _, _ => False
/-- the receiver's class, ahead of the arguments -/
def bmTy (m : Bm) (o : D) (S : Sto) : Prop :=
  match m, o with
  | .count, .str _ => True
  | .split, .str _ => True
  | .join, .str _ => True
  | .startswith, .str _ => True
  | .append, .ref a => ∃ ds, S a = some (.lst ds)
  | .pop, .ref a => ∃ ds, S a = some (.lst ds)
  | .extend, .ref a => ∃ ds, S a = some (.lst ds)
  | .index, .ref a => ∃ ds, S a = some (.lst ds)
  | _, _ => False
def bmW (m : Bm) (o : D) (xs : List D) (S : Sto) (Q : QD) : Prop :=
  match o with
  | .ref a => match S a with
    | some (.lst ds) => match m, xs with
      | .append, [d] => ds.length < sizeLine ∧ Q .non (S.upd a (.lst (ds ++ [d])))
      | .pop, [] => ∃ d, ds[ds.length - 1]? = some d ∧ Q d (S.upd a (.lst ds.dropLast))
      | .pop, [.int i] => (-(2 ^ 63) ≤ i ∧ i < 2 ^ 63) ∧ ∃ j d, ixN ds.length i = some j ∧ ds[j]? = some d ∧ Q d (S.upd a (.lst (ds.eraseIdx j)))
      | .extend, [.ref b] => ∃ es, S b = some (.lst es) ∧ ds.length + es.length ≤ sizeLine ∧ Q .non (S.upd a (.lst (ds ++ es)))
      | .extend, [.tup es] => ds.length + es.length ≤ sizeLine ∧ Q .non (S.upd a (.lst (ds ++ es)))
      | .index, [y] => ∃ p ps j z, PD S y p ∧ PDs S ds ps ∧ p.depth ≤ 60 ∧ PyData.depthAll ps ≤ 60 ∧ ps[j]? = some z ∧ PyData.eqv z p = true ∧ (∀ m z', m < j → ps[m]? = some z' → PyData.eqv z' p = false) ∧ Q (.int (j : Nat)) S
      | _, _ => False
    | _ => False
  | .str l => match m, xs with
    | .count, [.str b] => Q (.int (Txt.count (st l) (st b))) S
    | .split, [.str b] => ((st b).length == 0) = false ∧ l.length + 2 ≤ sizeLine ∧ newW (.lst ((Txt.split (st l) (st b)).map fun y => .str y.cps.toList)) S Q
    | .join, [.ref p] => ∃ ls : List (List Nat), rd S p = some (ls.map .str) ∧ (ls.map List.length).sum + ls.length * l.length ≤ 16777216 ∧ Q (.str (Txt.join (st l) (ls.map st)).cps.toList) S
    | .startswith, [.str b] => Q (.bl (Txt.startswith (st l) (st b))) S
    | _, _ => False
  | _ => False
/-- the slots a target fills -/
def tgW (t : Tg) (d : D) (σ : Env) : Option Env :=
  match t with
  | .nm i => some (σ.set i (some d))
  | .tp is => match d with
    | .tup ds => if ds.length = is.length then some ((is.zip ds).foldl (fun s p => s.set p.1 (some p.2)) σ) else none
    | _ => none
/-- one item after the other -/
def goW (live : Sto → Prop) (turn : D → (Sto → Prop) → (Sto → Prop)) : List D → Sto → (Sto → Prop) → Prop
  | [], S, Q => live S ∧ Q S
  | d :: ds, S, Q => live S ∧ turn d (fun S' => goW live turn ds S' Q) S
/-- a list as it stood -/
def liveL (a : Addr) (ds : List D) : Sto → Prop := fun S => rd S a = some ds
def sqW (x : D) (S : Sto) (R : List D → (Sto → Prop) → Prop) : Prop :=
  match x with
  | .tup ds => R ds fun _ => True
  | .str l => l.length ≤ sizeLine ∧ R (l.map fun c => .str [c]) fun _ => True
  | .ref a => match S a with
    | some (.lst ds) => R ds (liveL a ds)
    | some (.fls ds) => R ds (liveL a ds)
    | _ => False
  | _ => False
def lsW (x : D) (S : Sto) (R : List D → (Sto → Prop) → Prop) : Prop :=
  match x with
  | .ref a => ∃ ds, rd S a = some ds ∧ R ds (liveL a ds)
  | _ => False
def rngD (lo : Int) (n : Nat) : List D := (List.range n).map fun (k : Nat) => D.int (lo + k)
def enumD (ds : List D) : List D := (List.range ds.length).zip ds |>.map fun (p : Nat × D) => D.tup [.int p.1, p.2]
def zipD (xs ys : List D) : List D := (xs.zip ys).map fun p => D.tup [p.1, p.2]
/-- list(zip(a, b)) of a list and a tuple -/
def lzW (x y : D) (S : Sto) (Q : QD) : Prop :=
  match x, y with
  | .ref a, .tup es => ∃ ds, rd S a = some ds ∧ (zipD ds es).length < sizeLine ∧ newW (.lst (zipD ds es)) S Q
  | _, _ => False
mutual
def wpE (G : Gam) : Ex → Env → Sto → QD → QX → Prop
  | .var i, σ, S, Q, _ => match σ.get i with | some d => Q d S | none => False
  | .lit d, _, S, Q, _ => Q d S
  | .bin op a b, σ, S, Q, E => wpE G a σ S (fun x S1 => wpE G b σ S1 (fun y S2 => binW op x y S2 Q) E) E
  | .neg a, σ, S, Q, E => wpE G a σ S (fun x S1 => match x with | .int i => Q (.int (-i)) S1 | _ => False) E
  | .cmp op a b, σ, S, Q, E => wpE G a σ S (fun x S1 => wpE G b σ S1 (fun y S2 => cmpW op x y S2 Q) E) E
  | .chn o1 o2 a b c, σ, S, Q, E => wpE G a σ S (fun x S1 => wpE G b σ S1 (fun y S2 => cmpW o1 x y S2 (fun r S3 => match r with | .bl true => wpE G c σ S3 (fun z S4 => cmpW o2 y z S4 Q) E | .bl false => Q (.bl false) S3 | _ => False)) E) E
  | .and a b, σ, S, Q, E => wpE G a σ S (fun x S1 => match tru S1 x with | some true => wpE G b σ S1 Q E | some false => Q x S1 | none => False) E
  | .or a b, σ, S, Q, E => wpE G a σ S (fun x S1 => match tru S1 x with | some true => Q x S1 | some false => wpE G b σ S1 Q E | none => False) E
  | .not a, σ, S, Q, E => wpE G a σ S (fun x S1 => match tru S1 x with | some r => Q (.bl (!r)) S1 | none => False) E
  | .ite c a b, σ, S, Q, E => wpE G c σ S (fun x S1 => match tru S1 x with | some true => wpE G a σ S1 Q E | some false => wpE G b σ S1 Q E | none => False) E
  | .tup es, σ, S, Q, E => wpEs G es σ S (fun ds S1 => ds.length ≤ sizeLine ∧ Q (.tup ds) S1) E
  | .lst es, σ, S, Q, E => wpEs G es σ S (fun ds S1 => ds.length ≤ sizeLine ∧ newW (.lst ds) S1 Q) E
  | .dct ps, σ, S, Q, E => ∀ p, S p = none → wpPs G ps σ (S.upd p (.dct [])) (fun kvs S1 => S1 p = some (.dct []) ∧ kvs.length ≤ 15 ∧ Q (.ref p) (S1.upd p (.dct (dmerge [] kvs)))) E
  | .ix a i, σ, S, Q, E => wpE G a σ S (fun x S1 => wpE G i σ S1 (fun y S2 => ixW x y S2 Q) E) E
  | .slc a lo hi, σ, S, Q, E => wpE G a σ S (fun x S1 => wpO G lo σ S1 (fun l S2 => wpO G hi σ S2 (fun h S3 => slW x l h S3 Q) E) E) E
  | .rev a, σ, S, Q, E => wpE G a σ S (fun x S1 => revW x S1 Q) E
  | .att a f, σ, S, Q, E => wpE G a σ S (fun x S1 => match x with | .ref p => (match S1 p with | some (.ins _ fs) => (match fget fs f with | some d => Q d S1 | none => False) | _ => False) | _ => False) E
  | .call f es, σ, S, Q, E => wpEs G es σ S (fun ds S1 => G.fn f ds S1 Q E) E
  | .callv i es, σ, S, Q, E => match σ.get i with | some (.fn f) => f < G.nfn ∧ wpEs G es σ S (fun ds S1 => G.fn f ds S1 Q E) E | _ => False
  | .bi b es, σ, S, Q, E => wpEs G es σ S (fun ds S1 => biW b ds S1 Q) E
  | .isi a t, σ, S, Q, E => wpE G a σ S (fun x S1 => match isiW x t S1 with | some r => Q (.bl r) S1 | none => False) E
  | .isi2 a t u, σ, S, Q, E => wpE G a σ S (fun x S1 => match isiW x t S1, isiW x u S1 with | some r, some q => Q (.bl (r || q)) S1 | _, _ => False) E
  | .mth m o es, σ, S, Q, E => wpE G o σ S (fun x S1 => match x with | .ref p => (match S1 p with | some (.ins c fs) => (match G.mt c m with | some f => wpEs G es σ S1 (fun ds S2 => G.fn f (x :: ds) S2 Q E) E | none => False) | _ => False) | _ => False) E
  | .bm m o es, σ, S, Q, E => wpE G o σ S (fun x S1 => bmTy m x S1 ∧ wpEs G es σ S1 (fun ds S2 => bmW m x ds S2 Q) E) E
  | .new c es, σ, S, Q, E => wpEs G es σ S (fun ds S1 => ∀ p, S1 p = none → G.ini c (.ref p :: ds) (S1.upd p (.ins c [])) (fun r S2 => r = .non ∧ Q (.ref p) S2) E) E
  | .newo c, _, S, Q, _ => ∀ p, S p = none → Q (.ref p) (S.upd p (.ins c []))
  | .lc e t it c, σ, S, Q, E => wpI G it σ S (fun ds live S1 => ∀ p, S1 p = none → goW live (fun d K S2 => match tgW t d σ with | some σ' => wpC G c σ' S2 (fun ok S3 => if ok then wpE G e σ' S3 (fun y S4 => ∃ acc, S4 p = some (.lst acc) ∧ acc.length < sizeLine ∧ K (S4.upd p (.lst (acc ++ [y])))) (fun _ _ => False) else K S3) | none => False) ds (S1.upd p (.lst [])) (fun S5 => Q (.ref p) S5)) E
  | .dc ke ve t it c, σ, S, Q, E => wpI G it σ S (fun ds live S1 => ∀ p, S1 p = none → goW live (fun d K S2 => match tgW t d σ with | some σ' => wpC G c σ' S2 (fun ok S3 => if ok then wpE G ke σ' S3 (fun y S4 => wpE G ve σ' S4 (fun z S5 => ∃ kvs ky, kyOf y = some ky ∧ S5 p = some (.dct kvs) ∧ kvs.length < sizeLine ∧ K (S5.upd p (.dct (dput kvs ky z)))) (fun _ _ => False)) (fun _ _ => False) else K S3) | none => False) ds (S1.upd p (.dct [])) (fun S5 => Q (.ref p) S5)) E
  | .kin neg a kvs, σ, S, Q, E => wpE G a σ S (fun x S1 => match x with | .str l => Q (.bl (neg ^^ (kvs.lookup l).isSome)) S1 | _ => False) E
  | .lzip a b, σ, S, Q, E => wpE G a σ S (fun x S1 => wpE G b σ S1 (fun y S2 => lzW x y S2 Q) E) E
  | .kix kvs a, σ, S, Q, E => wpE G a σ S (fun x S1 => match x with | .str l => (match kvs.lookup l with | some d => Q d S1 | none => False) | _ => False) E
def wpEs (G : Gam) : Exs → Env → Sto → (List D → Sto → Prop) → QX → Prop
  | .nil, _, S, Q, _ => Q [] S
  | .cons e es, σ, S, Q, E => wpE G e σ S (fun x S1 => wpEs G es σ S1 (fun xs S2 => Q (x :: xs) S2) E) E
/-- the pairs of a display, from the left: key, value, key, value .. -/
def wpPs (G : Gam) : Exs → Env → Sto → (List (Ky × D) → Sto → Prop) → QX → Prop
  | .nil, _, S, Q, _ => Q [] S
  | .cons k (.cons v r), σ, S, Q, E => wpE G k σ S (fun x S1 => wpE G v σ S1 (fun y S2 => wpPs G r σ S2 (fun kvs S3 => ∃ ky, kyOf x = some ky ∧ Q ((ky, y) :: kvs) S3) E) E) E
  | .cons _ .nil, _, _, _, _ => False
def wpO (G : Gam) : Exo → Env → Sto → (Option Int → Sto → Prop) → QX → Prop
  | .none, _, S, Q, _ => Q none S
  | .some e, σ, S, Q, E => wpE G e σ S (fun x S1 => match x with | .int i => Q (some i) S1 | _ => False) E
/-- a comprehension's test; what it raises is not let out -/
def wpC (G : Gam) : Exo → Env → Sto → (Bool → Sto → Prop) → Prop
  | .none, _, S, Q => Q true S
  | .some e, σ, S, Q => wpE G e σ S (fun x S1 => match tru S1 x with | some r => Q r S1 | none => False) (fun _ _ => False)
def wpI (G : Gam) : Itr → Env → Sto → (List D → (Sto → Prop) → Sto → Prop) → QX → Prop
  | .sq e, σ, S, R, E => wpE G e σ S (fun x S1 => sqW x S1 (fun ds l => R ds l S1)) E
  | .rng b, σ, S, R, E => wpE G b σ S (fun x S1 => match x with | .int j => -(2 ^ 62) ≤ j ∧ j < 2 ^ 62 ∧ R (rngD 0 j.toNat) (fun _ => True) S1 | _ => False) E
  | .rng2 a b, σ, S, R, E => wpE G a σ S (fun x S1 => wpE G b σ S1 (fun y S2 => match x, y with | .int i, .int j => -(2 ^ 62) ≤ i ∧ i < 2 ^ 62 ∧ -(2 ^ 62) ≤ j ∧ j < 2 ^ 62 ∧ R (rngD i (j - i).toNat) (fun _ => True) S2 | _, _ => False) E) E
  | .enum e, σ, S, R, E => wpE G e σ S (fun x S1 => lsW x S1 (fun ds l => R (enumD ds) l S1)) E
  | .zip a b, σ, S, R, E => wpE G a σ S (fun x S1 => wpE G b σ S1 (fun y S2 => lsW x S2 (fun ds l => lsW y S2 (fun es l2 => R (zipD ds es) (fun S' => l S' ∧ l2 S') S2))) E) E
end
def wpT (G : Gam) (e : Ex) (σ : Env) (S : Sto) (Q : Bool → Sto → Prop) (E : QX) : Prop := wpE G e σ S (fun x S1 => match tru S1 x with | some r => Q r S1 | none => False) E
/-- what is wanted behind a statement -/
structure En where
  nx : Env → Sto → Prop
  rt : QD
  bk : Env → Sto → Prop := fun _ _ => False
  ct : Env → Sto → Prop := fun _ _ => False
abbrev EX := Xn → Env → Sto → Prop
def seW (e : Se) (x : Xn) (σ : Env) (Q : D → Prop) : Prop :=
  match e with
  | .lit d => Q d
  | .exf i f => i < σ.length ∧ ∃ d, fget x.fs f = some d ∧ Q d
  | .exf2 i f g => i < σ.length ∧ ∃ d d2, fget x.fs f = some d ∧ fget x.fs g = some d2 ∧ Q (.tup [d, d2])
def suW (s : Su) (x : Xn) (K : En) (σ : Env) (S : Sto) : Prop :=
  match s with
  | .ret e => seW e x σ fun d => K.rt d S
  | .cnt => K.ct σ S
  | .pass => K.nx σ S
  | .set i d => K.nx (σ.set i (some d)) S
def tryW (G : Gam) : List (Nat × Su) → Xn → En → EX → Env → Sto → Prop
  | [], x, _, X, σ, S => X x σ S
  | (c, su) :: r, x, K, X, σ, S => if G.xsub x.c c = true then suW su x K σ S else tryW G r x K X σ S
/-- a while: by an invariant over a measure -/
def whlW (c : Env → Sto → (Bool → Sto → Prop) → Prop) (b : En → Env → Sto → Prop) (K : En) (σ : Env) (S : Sto) : Prop :=
  ∃ W : Nat → Env → Sto → Prop, (∃ m, W m σ S) ∧ ∀ m σ S, W m σ S →
    c σ S fun r S1 => if r = true then b { K with nx := fun σ' S' => ∃ m', m' < m ∧ W m' σ' S', ct := fun σ' S' => ∃ m', m' < m ∧ W m' σ' S', bk := K.nx } σ S1 else K.nx σ S1
def forW (live : Sto → Prop) (t : Tg) (b : En → Env → Sto → Prop) (K : En) : List D → Env → Sto → Prop
  | [], σ, S => live S ∧ K.nx σ S
  | d :: ds, σ, S => live S ∧ match tgW t d σ with
    | some σ' => b { K with nx := fun σ2 S2 => forW live t b K ds σ2 S2, ct := fun σ2 S2 => forW live t b K ds σ2 S2, bk := K.nx } σ' S
    | none => False
mutual
def wpS (G : Gam) : Stm → En → EX → Env → Sto → Prop
  | .set i e, K, X, σ, S => wpE G e σ S (fun d S1 => K.nx (σ.set i (some d)) S1) (fun x S1 => X x σ S1)
  | .unp is e, K, X, σ, S => wpE G e σ S (fun d S1 => match tgW (.tp is) d σ with | some σ' => K.nx σ' S1 | none => False) (fun x S1 => X x σ S1)
  | .unpl is e, K, X, σ, S => wpE G e σ S (fun d S1 => match d with | .ref a => (match rd S1 a with | some ds => (match tgW (.tp is) (.tup ds) σ with | some σ' => K.nx σ' S1 | none => False) | none => False) | _ => False) (fun x S1 => X x σ S1)
  | .unpa o f o2 f2 e, K, X, σ, S => wpE G e σ S (fun d S1 => match d with | .tup [a, b] => wpE G o σ S1 (fun x S2 => putatW x f a S2 (fun S3 => wpE G o2 σ S3 (fun y S4 => putatW y f2 b S4 (fun S5 => K.nx σ S5)) (fun x S1 => X x σ S1))) (fun x S1 => X x σ S1) | _ => False) (fun x S1 => X x σ S1)
  | .setix o i e, K, X, σ, S => wpE G e σ S (fun v S1 => wpE G o σ S1 (fun x S2 => wpE G i σ S2 (fun y S3 => setixW x y v S3 (fun S4 => K.nx σ S4)) (fun x S1 => X x σ S1)) (fun x S1 => X x σ S1)) (fun x S1 => X x σ S1)
  | .setat o f e, K, X, σ, S => wpE G e σ S (fun v S1 => wpE G o σ S1 (fun x S2 => match x with | .ref p => (match S2 p with | some (.ins c fs) => fs.length < 1000 ∧ K.nx σ (S2.upd p (.ins c (fput f v fs))) | _ => False) | _ => False) (fun x S1 => X x σ S1)) (fun x S1 => X x σ S1)
  | .aug i op e, K, X, σ, S => match σ.get i with | some x => wpE G e σ S (fun y S1 => augW op x y S1 (fun z S2 => K.nx (σ.set i (some z)) S2)) (fun x S1 => X x σ S1) | none => False
  | .augat o f op e, K, X, σ, S => wpE G o σ S (fun x S1 => match x with | .ref p => (match S1 p with | some (.ins c fs) => (match fget fs f with | some d => wpE G e σ S1 (fun y S2 => augW op d y S2 (fun z S3 => (match S3 p with | some (.ins c' fs') => c' = c ∧ fs'.length < 1000 ∧ K.nx σ (S3.upd p (.ins c' (fput f z fs'))) | _ => False))) (fun x S1 => X x σ S1) | none => False) | _ => False) | _ => False) (fun x S1 => X x σ S1)
  | .ife c a b, K, X, σ, S => wpT G c σ S (fun r S1 => if r = true then wpSs G a K X σ S1 else wpSs G b K X σ S1) (fun x S1 => X x σ S1)
  | .whl c b, K, X, σ, S => whlW (fun σ S Q => wpT G c σ S Q (fun x S1 => X x σ S1)) (fun K σ S => wpSs G b K X σ S) K σ S
  | .for_ t it b, K, X, σ, S => wpI G it σ S (fun ds live S1 => forW live t (fun K σ S => wpSs G b K X σ S) K ds σ S1) (fun x S1 => X x σ S1)
  | .ret e, K, X, σ, S => wpE G e σ S K.rt (fun x S1 => X x σ S1)
  | .brk, K, _, σ, S => K.bk σ S
  | .cnt, K, _, σ, S => K.ct σ S
  | .pass, K, _, σ, S => K.nx σ S
  | .ex e, K, X, σ, S => wpE G e σ S (fun _ S1 => K.nx σ S1) (fun x S1 => X x σ S1)
  | .raise c es, K, X, σ, S => wpEs G es σ S (fun ds S1 => ds.length = (G.xfl c).length ∧ X ⟨c, ((G.xfl c).zip ds).reverse⟩ σ S1) (fun x S1 => X x σ S1)
  | .try_ b hs, K, X, σ, S => wpSs G b K (fun x σ' S' => tryW G hs x K X σ' S') σ S
def wpSs (G : Gam) : Stms → En → EX → Env → Sto → Prop
  | .nil, K, _, σ, S => K.nx σ S
  | .cons s ss, K, X, σ, S => wpS G s { K with nx := fun σ' S' => wpSs G ss K X σ' S' } X σ S
end
end Mini
end L2
/-! Mini, part C: operations on values are the library's -/
namespace L2
namespace Mini
open PySem PySem.Spec PyProof.Rows
/-- slots -/
def ER (Z : Nm) (H : Hp) (σ : Env) (τ : St) : Prop := τ.length = σ.length ∧ ∀ i d, σ.get i = some d → ∃ v, τ[i]? = some (some v) ∧ RD Z H d v
theorem ER.keep {Z : Nm} {H H' : Hp} {σ : Env} {τ : St} (e : ER Z H σ τ) (k : TK H H') : ER Z H' σ τ := ⟨e.1, fun i d h => by
  obtain ⟨v, h1, h2⟩ := e.2 i d h
  exact ⟨v, h1, h2.keep k⟩⟩
theorem Env.get_lt {σ : Env} {i : Nat} {d : D} (h : σ.get i = some d) : i < σ.length := by
  unfold Env.get at h
  split at h
  · rename_i d' e
    exact (List.getElem?_eq_some_iff.mp e).1
  · cases h
theorem Env.get_set_same {σ : Env} {i : Nat} {d : D} (h : i < σ.length) : Env.get (σ.set i (some d)) i = some d := by
  unfold Env.get; rw [List.getElem?_set_self h]
theorem Env.get_set_ne {σ : Env} {i j : Nat} {d : Option D} (h : i ≠ j) : Env.get (σ.set i d) j = σ.get j := by
  unfold Env.get; rw [List.getElem?_set_ne h]
theorem ER.set {Z : Nm} {H : Hp} {σ : Env} {τ : St} (e : ER Z H σ τ) (i : Nat) {d : D} {v : V} (r : RD Z H d v) : ER Z H (σ.set i (some d)) (τ.set i (some v)) := by
  refine ⟨by rw [List.length_set, List.length_set]; exact e.1, fun j d' h => ?_⟩
  have hj := Env.get_lt h
  rw [List.length_set] at hj
  by_cases hij : i = j
  · subst hij
    rw [Env.get_set_same hj] at h
    cases h
    exact ⟨v, List.getElem?_set_self (by rw [e.1]; exact hj), r⟩
  · rw [Env.get_set_ne hij] at h
    obtain ⟨u, h1, h2⟩ := e.2 j d' h
    exact ⟨u, by rw [List.getElem?_set_ne hij]; exact h1, h2⟩
/-- an exception as it lies -/
def XR (Z : Nm) (H : Hp) (x : Xn) (cls : Value) (dd : Option Addr) : Prop :=
  (Z.nc ≤ x.c ∧ x.c < Z.nx) ∧ cls = .ref (Z.cla x.c) ∧ match dd with | none => x.fs = [] | some a => ∃ gs, H a = some (.xd gs) ∧ RF Z H x.fs gs
/-- the end of an expression -/
def Kq (Z : Nm) (H : Hp) (Qa : QD) (Q : VK) : Prop := ∀ d v S' H', TK H H' → SR Z S' H' → RD Z H' d v → Qa d S' → Q v H'
theorem Kq.keep {Z : Nm} {H H' : Hp} {Qa : QD} {Q : VK} (q : Kq Z H Qa Q) (k : TK H H') : Kq Z H' Qa Q := fun d v S2 H2 k2 => q d v S2 H2 (k.trans k2)
def Kx (Z : Nm) (W : WX) (τ : St) (H : Hp) (E : QX) : Prop := ∀ x cls dd S' H', TK H H' → SR Z S' H' → XR Z H' x cls dd → E x S' → W cls dd τ H'
theorem Kx.keep {Z : Nm} {W : WX} {τ : St} {H H' : Hp} {E : QX} (q : Kx Z W τ H E) (k : TK H H') : Kx Z W τ H' E := fun x c d S2 H2 k2 => q x c d S2 H2 (k.trans k2)
/-- the readings from a word about slots and store -/
abbrev WE0 := Env → Sto → QD → QX → Prop
def TEx (Z : Nm) (W : WX) (w : WE0) : TE := fun τ H Q => ∃ σ S Qa E, ER Z H σ τ ∧ SR Z S H ∧ w σ S Qa E ∧ Kq Z H Qa Q ∧ Kx Z W τ H E
def SE (X : Cx) (Z : Nm) (W : WX) (e : Expr) (w : WE0) : Prop := PE X e (TEx Z W w)
theorem PE.imp {X : Cx} {e : Expr} {t t' : TE} (h : PE X e t) (i : ∀ τ H Q, t' τ H Q → t τ H Q) : PE X e t' := ⟨fun pins s σ H Q I w => h.run pins s σ H Q I (i _ _ _ w)⟩
/-! ### any rule for an operation -/
def rAny (X : Cx) (f : Value → Value → Sem Value) : R2 := fun x y H Q => ∃ r, OpR X f r ∧ r x y H Q
theorem rAny.ok (X : Cx) (f : Value → Value → Sem Value) : OpR X f (rAny X f) := fun pins s σ H x y v u Q I rx ry ⟨r, h, q⟩ => h pins s σ H x y v u Q I rx ry q
def uAny (X : Cx) (f : Value → Sem Value) : V → Hp → VK → Prop := fun x H Q => ∃ r, UnR X f r ∧ r x H Q
theorem uAny.ok (X : Cx) (f : Value → Sem Value) : UnR X f (uAny X f) := fun pins s σ H x v Q I rx ⟨r, h, q⟩ => h pins s σ H x v Q I rx q
def cAny (X : Cx) (f : Value) : List V → Hp → VK → Prop := fun xs H Q => ∃ r, CallR X f r ∧ r xs H Q
theorem cAny.ok (X : Cx) (f : Value) : CallR X f (cAny X f) := fun pins s σ H xs us Q I rx ⟨r, h, q⟩ => h pins s σ H xs us Q I rx q
def ixAny (X : Cx) : R2 := fun x y H Q => ∃ r, IxR X r ∧ r x y H Q
theorem ixAny.ok (X : Cx) : IxR X (ixAny X) := fun a b pins s σ H x y v u Q I rx ry ⟨r, h, q⟩ hs => h a b pins s σ H x y v u Q I rx ry q hs
def slAny (X : Cx) : V → Option Int → Option Int → Hp → VK → Prop := fun x lo hi H Q => ∃ r, SlR X r ∧ r x lo hi H Q
theorem slAny.ok (X : Cx) : SlR X (slAny X) := fun pins s σ H x v vl vu lo hi sl Q I rx hs pl pu ⟨r, h, q⟩ => h pins s σ H x v vl vu lo hi sl Q I rx hs pl pu q
section
variable {X : Cx} {Z : Nm} {S : Sto} {H : Hp} {Qa : QD} {Q : VK}
theorem Kq.pure {d : D} {v : V} (q : Kq Z H Qa Q) (sr : SR Z S H) (r : RD Z H d v) (h : Qa d S) : Q v H := q d v S H (TK.refl H) sr r h
/-- a new list -/
theorem Kq.newL {ds : List D} {vs : List V} (q : Kq Z H Qa Q) (sr : SR Z S H) (r : RDs Z H ds vs) (h : newW (.lst ds) S Qa) : ∀ p, H p = none → Q (.ref p) (upd H p (.lst vs)) := fun p n =>
  q (.ref p) (.ref p) (S.upd p (.lst ds)) _ (TK.new n) (sr.put (TK.new n) ⟨vs, upd_same, r.keep (TK.new n)⟩) .ref (h p (sr.free n))
/-- a new tuple -/
theorem Kq.newT {ds : List D} {vs : List V} (q : Kq Z H Qa Q) (sr : SR Z S H) (r : RDs Z H ds vs) (h : Qa (.tup ds) S) : ∀ p, H p = none → Q (.ref p) (upd H p (.tup vs)) := fun p n =>
  q (.tup ds) (.ref p) S _ (TK.new n) (sr.new n) (.tup (.inl upd_same) (r.keep (TK.new n))) h
theorem lstAt {a : Addr} {ds : List D} (sr : SR Z S H) (e : S a = some (.lst ds)) : ∃ vs, H a = some (.lst vs) ∧ RDs Z H ds vs := sr a _ e
theorem rdAt {K : PySem.W.Frag} {a : Addr} {ds : List D} (sr : SR Z S H) (e : rd S a = some ds) : ∃ vs, SqL K H a vs ∧ RDs Z H ds vs := by
  unfold rd at e
  split at e
  · rename_i q; cases e
    obtain ⟨vs, h, r⟩ := sr a _ q
    exact ⟨vs, SqL.of h, r⟩
  · rename_i q; cases e
    obtain ⟨o, vs, h, r⟩ := sr a _ q
    exact ⟨vs, .inl (.inr ⟨o, h⟩), r⟩
  · cases e
/-! ### equality -/
mutual
theorem PD.dp (hK : Z.K = X.K) (sr : SR Z S H) : ∀ {d : D} {p : PyData} {v : V}, PD S d p → RD Z H d v → Dp X.K H v p
  | _, _, _, .non, r => by cases r; exact .non
  | _, _, _, .bl, r => by cases r; exact .bl _
  | _, _, _, .int, r => by cases r; exact .int _
  | _, _, _, .str _, r => by cases r; exact .str _
  | _, _, _, .tup h, r => by
    cases r with
    | tup t rs => exact .tup (by rw [← hK]; exact t.sq) (PDs.dp hK sr h rs)
  | _, _, _, .ref e h, r => by
    cases r
    obtain ⟨vs, q, rs⟩ := rdAt (K := X.K) sr e
    exact .lst q (PDs.dp hK sr h rs)
theorem PDs.dp (hK : Z.K = X.K) (sr : SR Z S H) : ∀ {ds : List D} {ps : List PyData} {vs : List V}, PDs S ds ps → RDs Z H ds vs → DpAll X.K H vs ps
  | _, _, _, .nil, r => by cases r; exact .nil
  | _, _, _, .cons h t, r => by
    cases r with
    | cons r rs => exact .cons (PD.dp hK sr h r) (PDs.dp hK sr t rs)
end
mutual
theorem PD.lay : ∀ {d : D} {p : PyData}, PD S d p → p.canLay0 = true
  | _, _, .non => rfl
  | _, _, .bl => rfl
  | _, _, .int => rfl
  | _, _, .str h => by
    show ((st _).cps.all (· < 0x110000)) = true
    rw [← h]
    simp [st]
  | _, _, .tup h => by rw [PyData.canLay0]; exact PDs.lay h
  | _, _, .ref _ h => by rw [PyData.canLay0]; exact PDs.lay h
theorem PDs.lay : ∀ {ds : List D} {ps : List PyData}, PDs S ds ps → PyData.canLayAll0 ps = true
  | _, _, .nil => rfl
  | _, _, .cons h t => by rw [PyData.canLayAll0, PD.lay h, PDs.lay t]; rfl
end
theorem op_eqR (hu : X.A.units + 620 < cLine) : OpR X (compareOp .Eq) (fun x y H Q => ∃ d e, Dp X.K H x d ∧ Dp X.K H y e ∧ d.canLay0 = true ∧ e.canLay0 = true ∧ eqRoom d e ∧ Q (.bl (PyData.eqv d e)) H) := by
  intro pins s σ H x y v u Q I rx ry h
  obtain ⟨d, e, hd, he, sd, se, hr, q⟩ := h
  obtain ⟨as, r1⟩ := Dp.reads I d x v hd rx
  obtain ⟨bs, r2⟩ := Dp.reads I e y u he ry
  exact SeqAt.compareEq_reads r1 r2 sd se (by unfold eqRoom at hr; omega) ⟨.bl _, H, I, rfl, q⟩
theorem op_neR (hu : X.A.units + 620 < cLine) : OpR X (compareOp .NotEq) (fun x y H Q => ∃ d e, Dp X.K H x d ∧ Dp X.K H y e ∧ d.canLay0 = true ∧ e.canLay0 = true ∧ eqRoom d e ∧ Q (.bl (!PyData.eqv d e)) H) := by
  intro pins s σ H x y v u Q I rx ry h
  obtain ⟨d, e, hd, he, sd, se, hr, q⟩ := h
  obtain ⟨as, r1⟩ := Dp.reads I d x v hd rx
  obtain ⟨bs, r2⟩ := Dp.reads I e y u he ry
  exact SeqAt.compareNe_reads r1 r2 sd se (by unfold eqRoom at hr; omega) ⟨.bl _, H, I, rfl, q⟩
theorem beq_st (a b : List Nat) : decide (V.str (st a) = V.str (st b)) = (a == b) := by
  by_cases e : a = b
  · subst e; simp
  · have h : ¬ V.str (st a) = V.str (st b) := fun q => e (st_inj (V.str.inj q))
    rw [decide_eq_false h]; exact (beq_eq_false_iff_ne.mpr e).symm
theorem beq_in (a b : Int) : decide (V.int a = V.int b) = (a == b) := dec_int
/-- x == y -/
theorem eq_ok (hK : Z.K = X.K) (hu : X.A.units + 620 < cLine) {x y : D} {v u : V} (sr : SR Z S H) (rx : RD Z H x v) (ry : RD Z H y u) (h : eqW x y false S Qa) (q : Kq Z H Qa Q) : rAny X (compareOp .Eq) v u H Q := by
  unfold eqW at h
  split at h
  · cases rx; cases ry
    exact ⟨_, op_eq, rfl, by rw [beq_in]; exact q.pure sr .bl (by simpa using h)⟩
  · cases rx; cases ry
    exact ⟨_, op_eq, rfl, by rw [beq_st]; exact q.pure sr .bl (by simpa using h)⟩
  · obtain ⟨r, e, h⟩ := h
    rw [Bool.false_xor] at h
    cases e with
    | int => cases rx; cases ry; exact ⟨_, op_eq, rfl, by rw [beq_in]; exact q.pure sr .bl h⟩
    | str => cases rx; cases ry; exact ⟨_, op_eq, rfl, by rw [beq_st]; exact q.pure sr .bl h⟩
    | dat p1 p2 rm => exact ⟨_, op_eqR hu, _, _, p1.dp hK sr rx, p2.dp hK sr ry, p1.lay, p2.lay, rm, q.pure sr .bl h⟩
theorem ne_ok (hK : Z.K = X.K) (hu : X.A.units + 620 < cLine) {x y : D} {v u : V} (sr : SR Z S H) (rx : RD Z H x v) (ry : RD Z H y u) (h : eqW x y true S Qa) (q : Kq Z H Qa Q) : rAny X (compareOp .NotEq) v u H Q := by
  unfold eqW at h
  split at h
  · cases rx; cases ry
    exact ⟨_, op_ne, rfl, by rw [beq_in]; exact q.pure sr .bl (by simpa using h)⟩
  · cases rx; cases ry
    exact ⟨_, op_ne, rfl, by rw [beq_st]; exact q.pure sr .bl (by simpa using h)⟩
  · obtain ⟨r, e, h⟩ := h
    rw [Bool.true_xor] at h
    cases e with
    | int => cases rx; cases ry; exact ⟨_, op_ne, rfl, by rw [beq_in]; exact q.pure sr .bl h⟩
    | str => cases rx; cases ry; exact ⟨_, op_ne, rfl, by rw [beq_st]; exact q.pure sr .bl h⟩
    | dat p1 p2 rm => exact ⟨_, op_neR hu, _, _, p1.dp hK sr rx, p2.dp hK sr ry, p1.lay, p2.lay, rm, q.pure sr .bl h⟩
end
end Mini
end L2
/-! Mini: zip of a list and a tuple; list(zip(..)) -/
namespace L2
namespace Mini
namespace ZM
open PySem
open PySem.Sem (wp)
open RZ
section
variable {prog : Program} {w : World} {A : Around} {E : Value → Shared → Prop} {s : Shared}
theorem next_item {z TI TO i1 i2 l1 l2 : Addr} {k1 k2 : Nat} {xs ys : Array Value} {x y a b : Value} {Q : Value → Shared → Prop} (D : ZipApart z TI TO i1 i2 l1 l2)
    (hz : IsZip s.heap z TI TO .none) (hTI : IsPair s.heap TI (.ref i1) (.ref i2)) (hTO : IsPair s.heap TO a b)
    (h1 : s.heap.IsListIter i1 l1 k1) (h2 : s.heap.IsTupleIter i2 l2 k2) (hl1 : s.heap.IsList l1 xs) (hl2 : s.heap.IsTuple l2 ys) (hx : xs[k1]? = some x) (hy : ys[k2]? = some y)
    (hQ : ∀ h', IsZip h' z TI TO (rawInt s.heap.objs.size) → IsPair h' TO x y → h'.IsListIter i1 l1 (k1 + 1) → h'.IsTupleIter i2 l2 (k2 + 1) → IsPair h' s.heap.objs.size x y → h'.objs.size = s.heap.objs.size + 1 →
      (∀ c o, c ≠ z → c ≠ TO → c ≠ i1 → c ≠ i2 → s.heap.get? c = some o → h'.get? c = some o) → Q (.ref s.heap.objs.size) { s with heap := h' }) :
    wpAny (model prog w) A (Builtin.«zip.__next__» ⟨[.ref z], []⟩) (fun fin s' => ∃ v, fin = .done (.ret v) ∧ Q v s') E s := by
  show wpAny _ _ (field (.ref z) 2 >>= _) _ _ _
  refine wpAny_bind (wpAny_field hz rfl (x := .bool false) rfl ?_)
  show wpAny _ _ (field (.ref z) 3 >>= _) _ _ _
  refine wpAny_bind (wpAny_field hz rfl (x := .ref TI) rfl ?_)
  refine wpAny_bind (wpAny_seqItems hTI rfl ?_)
  show wpAny _ _ (Builtin.SmallTypes.ownedTupleIsFree (.ref z) >>= _) _ _ _
  refine wpAny_bind ?_
  unfold Builtin.SmallTypes.ownedTupleIsFree
  refine wpAny_bind (wpAny_field hz rfl (x := .none) rfl (wpAny_pure ?_))
  simp only [if_true]
  refine wpAny_bind (wpAny_rule ?_)
  refine wpAny_bind (wpAny_field hz rfl (x := .ref TO) rfl ?_)
  refine wpAny_bind (wpAny_setField_rec hz (by simp) fun h₁ hz₁ hs₁ => ?_)
  replace hz₁ : IsZip h₁ z TI TO .ellipsis := hz₁
  refine wpAny_bind ?_
  simp only [List.zipIdx_cons, List.zipIdx_nil, List.forIn_cons, List.forIn_nil]
  refine wpAny_bind (wpAny_bind (wpAny_onRaise ?_))
  show wpAny _ _ (Builtin.SmallTypes.nextOf (.ref i1) >>= _) _ _ _
  refine wpAny_bind (wpAny_nextOf_list_item (h1.extBut hs₁.extBut D.i1z) (hl1.extBut hs₁.extBut D.l1z) hx fun h₂ h1₂ hs₂ => wpAny_pure ?_)
  have hTO₂ : IsPair h₂ TO a b := hs₂.extBut _ _ D.TOi1 (hs₁.extBut _ _ D.TOz hTO)
  refine wpAny_bind (wpAny_seqItems hTO₂ rfl ?_)
  refine wpAny_bind (wpAny_updateSeq_pair hTO₂ fun h₃ hTO₃ hs₃ => ?_)
  replace hTO₃ : IsPair h₃ TO x b := hTO₃
  refine wpAny_bind (wpAny_letGo (wpAny_pure ?_))
  refine wpAny_bind (wpAny_bind (wpAny_onRaise ?_))
  show wpAny _ _ (Builtin.SmallTypes.nextOf (.ref i2) >>= _) _ _ _
  refine wpAny_bind (nextOf_tuple_item (((h2.extBut hs₁.extBut D.i2z).extBut hs₂.extBut D.i12.symm).extBut hs₃.extBut D.TOi2.symm)
    (((hl2.extBut hs₁.extBut D.l2z).extBut hs₂.extBut D.l2i1).extBut hs₃.extBut D.l2TO) hy fun h₄ h2₄ hs₄ => wpAny_pure ?_)
  have hTO₄ : IsPair h₄ TO x b := hs₄.extBut _ _ D.TOi2 hTO₃
  refine wpAny_bind (wpAny_seqItems hTO₄ rfl ?_)
  refine wpAny_bind (wpAny_updateSeq_pair hTO₄ fun h₅ hTO₅ hs₅ => ?_)
  replace hTO₅ : IsPair h₅ TO x y := hTO₅
  refine wpAny_bind (wpAny_letGo (wpAny_pure (wpAny_pure ?_)))
  refine wpAny_bind (wpAny_seqItems hTO₅ rfl ?_)
  refine wpAny_bind (wpAny_newTuple ?_)
  have hsz : h₅.objs.size = s.heap.objs.size := by rw [hs₅.1, hs₄.1, hs₃.1, hs₂.1, hs₁.1]
  have hz₅ : IsZip h₅ z TI TO .ellipsis := hs₅.extBut _ _ D.TOz.symm (hs₄.extBut _ _ D.i2z.symm (hs₃.extBut _ _ D.TOz.symm (hs₂.extBut _ _ D.i1z.symm hz₁)))
  have hk₅ : ∀ c o, c ≠ z → c ≠ TO → c ≠ i1 → c ≠ i2 → s.heap.get? c = some o → h₅.get? c = some o := fun c o c1 c2 c3 c4 e =>
    hs₅.extBut _ _ c2 (hs₄.extBut _ _ c4 (hs₃.extBut _ _ c2 (hs₂.extBut _ _ c3 (hs₁.extBut _ _ c1 e))))
  have h1₅ : h₅.IsListIter i1 l1 (k1 + 1) := ((h1₂.extBut hs₃.extBut D.TOi1.symm).extBut hs₄.extBut D.i12).extBut hs₅.extBut D.TOi1.symm
  have h2₅ : h₅.IsTupleIter i2 l2 (k2 + 1) := h2₄.extBut hs₅.extBut D.TOi2.symm
  have hzlt : z < h₅.objs.size := Heap.lt_size hz₅
  show wpAny _ _ (Builtin.SmallTypes.ownedTupleHandOut (.ref z) (.ref h₅.objs.size) >>= _) _ _ _
  refine wpAny_bind ?_
  unfold Builtin.SmallTypes.ownedTupleHandOut
  have hz₆ : IsZip (h₅.push { cls := .type "tuple", data := .seq #[x, y] }) z TI TO .ellipsis := Heap.get?_push_of_some _ hz₅
  refine wpAny_bind (wpAny_setField_rec hz₆ (by simp) fun h₇ hz₇ hs₇ => ?_)
  replace hz₇ : IsZip h₇ z TI TO (rawInt h₅.objs.size) := hz₇
  refine wpAny_setField_rec hz₇ (by simp) fun h₈ hz₈ hs₈ => ?_
  replace hz₈ : IsZip h₈ z TI TO (rawInt h₅.objs.size) := hz₈
  have up : ∀ c o, c ≠ z → h₅.get? c = some o → h₈.get? c = some o := fun c o c1 e => hs₈.extBut _ _ c1 (hs₇.extBut _ _ c1 (Heap.get?_push_of_some _ e))
  have hT₈ : IsPair h₈ h₅.objs.size x y := hs₈.extBut _ _ (Nat.ne_of_gt hzlt) (hs₇.extBut _ _ (Nat.ne_of_gt hzlt) (Heap.get?_push_size _ rfl))
  have hz8 : h₈.objs.size = h₅.objs.size + 1 := by rw [hs₈.1, hs₇.1, Heap.size_push]
  rw [hsz] at hz₈ hT₈ hz8
  refine wpAny_pure ⟨_, rfl, ?_⟩
  show Q (.ref h₅.objs.size) _
  rw [hsz]
  exact hQ h₈ hz₈ (up _ _ D.TOz hTO₅) (h1₅.at fun o e => up _ o D.i1z e) (h2₅.at fun o e => up _ o D.i2z e) hT₈ hz8 fun c o c1 c2 c3 c4 e => up c o c1 (hk₅ c o c1 c2 c3 c4 e)
theorem next_end {z TI TO i1 i2 l1 l2 : Addr} {k1 k2 : Nat} {xs ys : Array Value} {a b : Value} {Q : Fin → Shared → Prop} (hh : A.handled = none) (D : ZipApart z TI TO i1 i2 l1 l2)
    (hz : IsZip s.heap z TI TO .none) (hTI : IsPair s.heap TI (.ref i1) (.ref i2)) (hTO : IsPair s.heap TO a b)
    (h1 : s.heap.IsListIter i1 l1 k1) (h2 : s.heap.IsTupleIter i2 l2 k2) (hl1 : s.heap.IsList l1 xs) (hl2 : s.heap.IsTuple l2 ys) (hend : xs[k1]? = none ∨ ys[k2]? = none)
    (hE : ∀ h' e, (∀ c o, c ≠ z → c ≠ TO → c ≠ i1 → c ≠ i2 → s.heap.get? c = some o → h'.get? c = some o) → (∃ o, h'.get? e = some o ∧ o.cls = .type "StopIteration") → E (.ref e) { s with heap := h' }) :
    wpAny (model prog w) A (Builtin.«zip.__next__» ⟨[.ref z], []⟩) Q E s := by
  show wpAny _ _ (field (.ref z) 2 >>= _) _ _ _
  refine wpAny_bind (wpAny_field hz rfl (x := .bool false) rfl ?_)
  show wpAny _ _ (field (.ref z) 3 >>= _) _ _ _
  refine wpAny_bind (wpAny_field hz rfl (x := .ref TI) rfl ?_)
  refine wpAny_bind (wpAny_seqItems hTI rfl ?_)
  show wpAny _ _ (Builtin.SmallTypes.ownedTupleIsFree (.ref z) >>= _) _ _ _
  refine wpAny_bind ?_
  unfold Builtin.SmallTypes.ownedTupleIsFree
  refine wpAny_bind (wpAny_field hz rfl (x := .none) rfl (wpAny_pure ?_))
  simp only [if_true]
  refine wpAny_bind (wpAny_rule ?_)
  refine wpAny_bind (wpAny_field hz rfl (x := .ref TO) rfl ?_)
  refine wpAny_bind (wpAny_setField_rec hz (by simp) fun h₁ hz₁ hs₁ => ?_)
  replace hz₁ : IsZip h₁ z TI TO .ellipsis := hz₁
  refine wpAny_bind ?_
  simp only [List.zipIdx_cons, List.zipIdx_nil, List.forIn_cons, List.forIn_nil]
  refine wpAny_bind (wpAny_bind (wpAny_onRaise ?_))
  show wpAny _ _ (Builtin.SmallTypes.nextOf (.ref i1) >>= _) _ _ _
  cases hx : xs[k1]? with
  | none =>
    refine wpAny_bind (wpAny_nextOf_list_end hh (h1.extBut hs₁.extBut D.i1z) (hl1.extBut hs₁.extBut D.l1z) hx fun h₂ e hs₂ he => ?_)
    obtain ⟨oe, hoe, hce⟩ := he
    have hz₂ : IsZip h₂ z TI TO .ellipsis := hs₂ _ _ D.i1z.symm hz₁
    have hez : e ≠ z := fun x => by subst x; rw [hz₂] at hoe; cases hoe; simp at hce
    refine wpAny_setField_rec hz₂ (by simp) fun h₃ _ hs₃ => hE h₃ e (fun c o c1 _ c3 _ x => hs₃.extBut _ _ c1 (hs₂ _ _ c3 (hs₁.extBut _ _ c1 x))) ⟨oe, hs₃.extBut _ _ hez hoe, hce⟩
  | some x =>
    have hy : ys[k2]? = none := by rcases hend with h | h; rw [hx] at h; cases h; exact h
    refine wpAny_bind (wpAny_nextOf_list_item (h1.extBut hs₁.extBut D.i1z) (hl1.extBut hs₁.extBut D.l1z) hx fun h₂ h1₂ hs₂ => wpAny_pure ?_)
    have hTO₂ : IsPair h₂ TO a b := hs₂.extBut _ _ D.TOi1 (hs₁.extBut _ _ D.TOz hTO)
    refine wpAny_bind (wpAny_seqItems hTO₂ rfl ?_)
    refine wpAny_bind (wpAny_updateSeq_pair hTO₂ fun h₃ hTO₃ hs₃ => ?_)
    refine wpAny_bind (wpAny_letGo (wpAny_pure ?_))
    refine wpAny_bind (wpAny_bind (wpAny_onRaise ?_))
    show wpAny _ _ (Builtin.SmallTypes.nextOf (.ref i2) >>= _) _ _ _
    refine wpAny_bind (nextOf_tuple_end hh (((h2.extBut hs₁.extBut D.i2z).extBut hs₂.extBut D.i12.symm).extBut hs₃.extBut D.TOi2.symm)
      (((hl2.extBut hs₁.extBut D.l2z).extBut hs₂.extBut D.l2i1).extBut hs₃.extBut D.l2TO) hy fun h₄ e hs₄ he => ?_)
    obtain ⟨oe, hoe, hce⟩ := he
    have hz₄ : IsZip h₄ z TI TO .ellipsis := hs₄ _ _ D.i2z.symm (hs₃.extBut _ _ D.TOz.symm (hs₂.extBut _ _ D.i1z.symm hz₁))
    have hez : e ≠ z := fun x => by subst x; rw [hz₄] at hoe; cases hoe; simp at hce
    refine wpAny_setField_rec hz₄ (by simp) fun h₅ _ hs₅ => hE h₅ e (fun c o c1 c2 c3 c4 x => hs₅.extBut _ _ c1 (hs₄ _ _ c4 (hs₃.extBut _ _ c2 (hs₂.extBut _ _ c3 (hs₁.extBut _ _ c1 x))))) ⟨oe, hs₅.extBut _ _ hez hoe, hce⟩
theorem next_item_held {z TI TO T i1 i2 l1 l2 : Addr} {f : Bool} {oT : Obj} {k1 k2 : Nat} {xs ys : Array Value} {x y : Value} {Q : Value → Shared → Prop} (D : ZipApart z TI TO i1 i2 l1 l2)
    (hz : IsZipHeld s.heap z TI TO T f) (hT : s.heap.get? T = some oT) (hTI : IsPair s.heap TI (.ref i1) (.ref i2))
    (h1 : s.heap.IsListIter i1 l1 k1) (h2 : s.heap.IsTupleIter i2 l2 k2) (hl1 : s.heap.IsList l1 xs) (hl2 : s.heap.IsTuple l2 ys) (hx : xs[k1]? = some x) (hy : ys[k2]? = some y)
    (hQ : ∀ h', IsZipHeld h' z TI TO T true → h'.IsListIter i1 l1 (k1 + 1) → h'.IsTupleIter i2 l2 (k2 + 1) → IsPair h' s.heap.objs.size x y → h'.objs.size = s.heap.objs.size + 1 →
      (∀ c o, c ≠ z → c ≠ i1 → c ≠ i2 → s.heap.get? c = some o → h'.get? c = some o) → Q (.ref s.heap.objs.size) { s with heap := h' }) :
    wpAny (model prog w) A (Builtin.«zip.__next__» ⟨[.ref z], []⟩) (fun fin s' => ∃ v, fin = .done (.ret v) ∧ Q v s') E s := by
  show wpAny _ _ (field (.ref z) 2 >>= _) _ _ _
  refine wpAny_bind (wpAny_field hz rfl (x := .bool false) rfl ?_)
  show wpAny _ _ (field (.ref z) 3 >>= _) _ _ _
  refine wpAny_bind (wpAny_field hz rfl (x := .ref TI) rfl ?_)
  refine wpAny_bind (wpAny_seqItems hTI rfl ?_)
  show wpAny _ _ (Builtin.SmallTypes.ownedTupleIsFree (.ref z) >>= _) _ _ _
  refine wpAny_bind (wpAny_tupleHeld_zip hz hT fun h₁ hz₁ hs₁ => ?_)
  simp only [Bool.false_eq_true, if_false]
  refine wpAny_bind ?_
  rw [← Array.forIn_toList]
  simp only [List.forIn_cons, List.forIn_nil]
  refine wpAny_bind (wpAny_bind (wpAny_holding ?_))
  show wpAny _ _ (Builtin.SmallTypes.nextOf (.ref i1) >>= _) _ _ _
  refine wpAny_bind (wpAny_nextOf_list_item (s := { s with heap := h₁ }) (h1.extBut hs₁.extBut D.i1z) (hl1.extBut hs₁.extBut D.l1z) hx fun h₂ h1₂ hs₂ => wpAny_pure ?_)
  refine wpAny_pure ?_
  refine wpAny_bind (wpAny_bind (wpAny_holding ?_))
  show wpAny _ _ (Builtin.SmallTypes.nextOf (.ref i2) >>= _) _ _ _
  refine wpAny_bind (nextOf_tuple_item (s := { s with heap := h₂ }) ((h2.extBut hs₁.extBut D.i2z).extBut hs₂.extBut D.i12.symm) ((hl2.extBut hs₁.extBut D.l2z).extBut hs₂.extBut D.l2i1) hy fun h₃ h2₃ hs₃ => wpAny_pure ?_)
  refine wpAny_pure (wpAny_pure ?_)
  show wpAny _ _ (newTuple [x, y] >>= _) _ _ _
  refine wpAny_bind (wpAny_newTuple ?_)
  have hsz : h₃.objs.size = s.heap.objs.size := by rw [hs₃.1, hs₂.1, hs₁.1]
  have hz₃ : IsZipHeld h₃ z TI TO T true := hs₃.extBut _ _ D.i2z.symm (hs₂.extBut _ _ D.i1z.symm hz₁)
  have hk : ∀ c o, c ≠ z → c ≠ i1 → c ≠ i2 → s.heap.get? c = some o → h₃.get? c = some o := fun c o c1 c2 c3 e => hs₃.extBut _ _ c3 (hs₂.extBut _ _ c2 (hs₁.extBut _ _ c1 e))
  have h1₃ : h₃.IsListIter i1 l1 (k1 + 1) := h1₂.extBut hs₃.extBut D.i12
  refine wpAny_pure ⟨_, rfl, ?_⟩
  show Q (.ref h₃.objs.size) _
  have hp : IsPair (h₃.push { cls := .type "tuple", data := .seq #[x, y] }) h₃.objs.size x y := Heap.get?_push_size _ rfl
  have hz4 : (h₃.push { cls := .type "tuple", data := .seq #[x, y] }).objs.size = h₃.objs.size + 1 := Heap.size_push ..
  rw [hsz] at hp hz4 ⊢
  exact hQ _ (Heap.get?_push_of_some _ hz₃) (h1₃.at fun o e => Heap.get?_push_of_some _ e) (h2₃.at fun o e => Heap.get?_push_of_some _ e) hp hz4 fun c o c1 c2 c3 e => Heap.get?_push_of_some _ (hk c o c1 c2 c3 e)
theorem next_end_held {z TI TO T i1 i2 l1 l2 : Addr} {f : Bool} {oT : Obj} {k1 k2 : Nat} {xs ys : Array Value} {Q : Fin → Shared → Prop} (hh : A.handled = none) (D : ZipApart z TI TO i1 i2 l1 l2)
    (hz : IsZipHeld s.heap z TI TO T f) (hT : s.heap.get? T = some oT) (hTI : IsPair s.heap TI (.ref i1) (.ref i2))
    (h1 : s.heap.IsListIter i1 l1 k1) (h2 : s.heap.IsTupleIter i2 l2 k2) (hl1 : s.heap.IsList l1 xs) (hl2 : s.heap.IsTuple l2 ys) (hend : xs[k1]? = none ∨ ys[k2]? = none)
    (hE : ∀ h' e, (∀ c o, c ≠ z → c ≠ i1 → c ≠ i2 → s.heap.get? c = some o → h'.get? c = some o) → (∃ o, h'.get? e = some o ∧ o.cls = .type "StopIteration") → E (.ref e) { s with heap := h' }) :
    wpAny (model prog w) A (Builtin.«zip.__next__» ⟨[.ref z], []⟩) Q E s := by
  show wpAny _ _ (field (.ref z) 2 >>= _) _ _ _
  refine wpAny_bind (wpAny_field hz rfl (x := .bool false) rfl ?_)
  show wpAny _ _ (field (.ref z) 3 >>= _) _ _ _
  refine wpAny_bind (wpAny_field hz rfl (x := .ref TI) rfl ?_)
  refine wpAny_bind (wpAny_seqItems hTI rfl ?_)
  show wpAny _ _ (Builtin.SmallTypes.ownedTupleIsFree (.ref z) >>= _) _ _ _
  refine wpAny_bind (wpAny_tupleHeld_zip hz hT fun h₁ hz₁ hs₁ => ?_)
  simp only [Bool.false_eq_true, if_false]
  refine wpAny_bind ?_
  rw [← Array.forIn_toList]
  simp only [List.forIn_cons, List.forIn_nil]
  refine wpAny_bind (wpAny_bind (wpAny_holding ?_))
  show wpAny _ _ (Builtin.SmallTypes.nextOf (.ref i1) >>= _) _ _ _
  cases hx : xs[k1]? with
  | none =>
    refine wpAny_bind (wpAny_nextOf_list_end (s := { s with heap := h₁ }) hh (h1.extBut hs₁.extBut D.i1z) (hl1.extBut hs₁.extBut D.l1z) hx fun h₂ e hs₂ he => ?_)
    exact hE h₂ e (fun c o c1 c2 _ x => hs₂ _ _ c2 (hs₁.extBut _ _ c1 x)) he
  | some x =>
    have hy : ys[k2]? = none := by rcases hend with h | h; rw [hx] at h; cases h; exact h
    refine wpAny_bind (wpAny_nextOf_list_item (s := { s with heap := h₁ }) (h1.extBut hs₁.extBut D.i1z) (hl1.extBut hs₁.extBut D.l1z) hx fun h₂ h1₂ hs₂ => wpAny_pure ?_)
    refine wpAny_pure ?_
    refine wpAny_bind (wpAny_bind (wpAny_holding ?_))
    show wpAny _ _ (Builtin.SmallTypes.nextOf (.ref i2) >>= _) _ _ _
    refine wpAny_bind (nextOf_tuple_end (s := { s with heap := h₂ }) hh ((h2.extBut hs₁.extBut D.i2z).extBut hs₂.extBut D.i12.symm) ((hl2.extBut hs₁.extBut D.l2z).extBut hs₂.extBut D.l2i1) hy fun h₃ e hs₃ he => ?_)
    exact hE h₃ e (fun c o c1 c2 c3 x => hs₃ _ _ c3 (hs₂.extBut _ _ c2 (hs₁.extBut _ _ c1 x))) he
end
abbrev zH1 (h : Heap) (l1 : Addr) : Heap := h.push { cls := .type "list_iterator", data := .fields #[.ref l1, .int 0 0] }
abbrev zH2 (h : Heap) (l1 l2 : Addr) : Heap := (zH1 h l1).push { cls := .type "tuple_iterator", data := .fields #[.ref l2, .int 0 0] }
abbrev zH3 (h : Heap) (l1 l2 : Addr) : Heap := (zH2 h l1 l2).push { cls := .type "tuple", data := .seq #[.ref h.objs.size, .ref (zH1 h l1).objs.size] }
abbrev zH4 (h : Heap) (l1 l2 : Addr) : Heap := (zH3 h l1 l2).push { cls := .type "tuple", data := .seq #[.none, .none] }
abbrev zH5 (h : Heap) (l1 l2 : Addr) : Heap := (zH4 h l1 l2).push { cls := .type "zip", data := .fields #[.none, .bool false, .bool false, .ref (zH2 h l1 l2).objs.size, .ref (zH3 h l1 l2).objs.size] }
theorem meets_new (l1 l2 : Addr) (xs ys : Array Value) :
    Meets (Builtin.«zip.__new__» ⟨[.type "zip", .ref l1, .ref l2], []⟩) (fun _ R s => s.heap.IsList l1 xs ∧ s.heap.IsTuple l2 ys ∧
      R (.ok (.ret (.ref (zH4 s.heap l1 l2).objs.size))) { s with heap := zH5 s.heap l1 l2 }) :=
  .of_wp fun prog w A R s h => by
    obtain ⟨hp, g, d, tk, os⟩ := s; obtain ⟨hl1, hl2, h⟩ := h
    have hsub := sub_zip
    have hL1 : Heap.IsList (Shared.heap ⟨hp, g, d, tk, os⟩) l1 xs := hl1
    have hL2 : Heap.IsTuple (Shared.heap ⟨hp.push { cls := .type "list_iterator", data := .fields #[.ref l1, .int 0 0] }, g, d, tk, os⟩) l2 ys := Heap.IsTuple.push hl2 _
    wp_walk using wpAny_pyIter_list hL1, wpAny_pyIter_tuple hL2
    exact ⟨_, rfl, h⟩
section
variable {prog : Program} {w : World} {A : Around} {E : Value → Shared → Prop} {s : Shared}
theorem call_zip {l1 l2 : Addr} {xs ys : Array Value} {Q : Value → Shared → Prop} (hl1 : s.heap.IsList l1 xs) (hl2 : s.heap.IsTuple l2 ys)
    (h : ∀ h', IsZip h' (s.heap.objs.size + 4) (s.heap.objs.size + 2) (s.heap.objs.size + 3) .none → IsPair h' (s.heap.objs.size + 2) (.ref s.heap.objs.size) (.ref (s.heap.objs.size + 1)) →
      IsPair h' (s.heap.objs.size + 3) .none .none → h'.IsListIter s.heap.objs.size l1 0 → h'.IsTupleIter (s.heap.objs.size + 1) l2 0 → h'.objs.size = s.heap.objs.size + 5 →
      (∀ c o, s.heap.get? c = some o → h'.get? c = some o) → Q (.ref (s.heap.objs.size + 4)) { s with heap := h' }) :
    wpAny (model prog w) A (call (.type "zip") [.ref l1, .ref l2]) Q E s := by
  refine callType_new F.called_zip (by decide) (F.typeCall_zip_2 _ _) (F.newCall_zip_2 _ _) (fun obj => F.args_object_init_3 obj _ _) F.entry_zip_new
    (meets_new l1 l2 xs ys) ⟨hl1, hl2, ?_⟩
  have z1 : (zH1 s.heap l1).objs.size = s.heap.objs.size + 1 := Heap.size_push ..
  have z2 : (zH2 s.heap l1 l2).objs.size = s.heap.objs.size + 2 := by rw [Heap.size_push, z1]
  have z3 : (zH3 s.heap l1 l2).objs.size = s.heap.objs.size + 3 := by rw [Heap.size_push, z2]
  have z4 : (zH4 s.heap l1 l2).objs.size = s.heap.objs.size + 4 := by rw [Heap.size_push, z3]
  have z5 : (zH5 s.heap l1 l2).objs.size = s.heap.objs.size + 5 := by rw [Heap.size_push, z4]
  have g5 : (zH5 s.heap l1 l2).get? (zH4 s.heap l1 l2).objs.size = some _ := Heap.get?_push_size _ rfl
  have g4 : (zH5 s.heap l1 l2).get? (zH3 s.heap l1 l2).objs.size = some _ := Heap.get?_push_of_some _ (Heap.get?_push_size _ rfl)
  have g3 : (zH5 s.heap l1 l2).get? (zH2 s.heap l1 l2).objs.size = some _ := Heap.get?_push_of_some _ (Heap.get?_push_of_some _ (Heap.get?_push_size _ rfl))
  have g2 : (zH5 s.heap l1 l2).get? (zH1 s.heap l1).objs.size = some _ := Heap.get?_push_of_some _ (Heap.get?_push_of_some _ (Heap.get?_push_of_some _ (Heap.get?_push_size _ rfl)))
  have g1 : (zH5 s.heap l1 l2).get? s.heap.objs.size = some _ := Heap.get?_push_of_some _ (Heap.get?_push_of_some _ (Heap.get?_push_of_some _ (Heap.get?_push_of_some _ (Heap.get?_push_size _ rfl))))
  show _ ∧ _
  rw [z2, z3, z4] at g5
  rw [z1, z2] at g3
  rw [z3] at g4
  rw [z1] at g2
  rw [z4]
  exact ⟨⟨_, g5, rfl⟩, h _ g5 g3 g4 ⟨_, g1, rfl, rfl⟩ ⟨_, g2, rfl, rfl⟩ z5 fun c o x =>
    Heap.get?_push_of_some _ (Heap.get?_push_of_some _ (Heap.get?_push_of_some _ (Heap.get?_push_of_some _ (Heap.get?_push_of_some _ x))))⟩
end
open PySem.Spec PyProof.Rows
section
variable {X : Cx} {pins : List (Addr × Obj)} {σ : St} {H : Hp} {s : Shared} {z TI TO i1 i2 a b : Addr} {A1 : Around}
/-- the zip behind i items; the first tuple that it gave out is still there -/
def ZSt (z TI TO i1 i2 a b : Addr) (i : Nat) (h : Heap) : Prop :=
  IsPair h TI (.ref i1) (.ref i2) ∧ h.IsListIter i1 a i ∧ h.IsTupleIter i2 b i ∧ (∃ x y, IsPair h TO x y) ∧
  (IsZip h z TI TO .none ∨ ∃ T f oT, IsZipHeld h z TI TO T f ∧ h.get? T = some oT ∧ T ≠ z ∧ T ≠ i1 ∧ T ≠ i2)
theorem ZSt.lt {i : Nat} {h : Heap} (st : ZSt z TI TO i1 i2 a b i h) : ∀ c ∈ [z, TI, TO, i1, i2], c < h.objs.size := fun c hc => by
  obtain ⟨hTI, ⟨_, e1, _⟩, ⟨_, e2, _⟩, ⟨x, y, hTO⟩, hz⟩ := st
  have e' : c = z ∨ c = TI ∨ c = TO ∨ c = i1 ∨ c = i2 := by simpa using hc
  rcases e' with q | q | q | q | q
  · rw [q]; rcases hz with hz | ⟨_, _, _, hz, _⟩ <;> exact Heap.lt_size hz
  · rw [q]; exact Heap.lt_size hTI
  · rw [q]; exact Heap.lt_size hTO
  · rw [q]; exact Heap.lt_size e1
  · rw [q]; exact Heap.lt_size e2
theorem py_item {i : Nat} {xs ys : List V} {x y : V} {E : Value → Shared → Prop} (D : ZipApart z TI TO i1 i2 a b) (I : Inv X pins σ H s) (hf : ∀ c ∈ [z, TI, TO, i1, i2], FpOk X pins H c) (st : ZSt z TI TO i1 i2 a b i s.heap) (hqx : SqL X.K H a xs) (hqy : SqT X.K H b ys) (hx : xs[i]? = some x) (hy : ys[i]? = some y) :
    wpAny (model X.prog X.w) A1 (pyNext (.ref z)) (fun r s' => ∃ T, r = some (.ref T) ∧ H T = none ∧ Inv X pins σ (upd H T (.tup [x, y])) s' ∧ ZSt z TI TO i1 i2 a b (i + 1) s'.heap ∧ (∀ c ∈ [z, TI, TO, i1, i2], FpOk X pins (upd H T (.tup [x, y])) c)) E s := by
  have hlt := st.lt
  obtain ⟨hTI, h1, h2, ⟨x0, y0, hTO⟩, hz⟩ := st
  obtain ⟨its, rv, p, _⟩ := I.list hqx
  obtain ⟨its2, rv2, p2, _⟩ := I.tuple hqy
  obtain ⟨u, hu, ru⟩ := rv.get hx
  obtain ⟨u2, hu2, ru2⟩ := rv2.get hy
  have hfT : ∀ c ∈ [z, TI, TO, i1, i2], FpOk X pins (upd H s.heap.objs.size (.tup [x, y])) c := fun c hc => ⟨by rw [upd_ne (Nat.ne_of_lt (hlt c hc))]; exact (hf c hc).1, (hf c hc).2⟩
  have fin : ∀ h' : Heap, IsPair h' s.heap.objs.size u u2 → (∀ c o, c ≠ z → c ≠ TO → c ≠ i1 → c ≠ i2 → s.heap.get? c = some o → h'.get? c = some o) → Inv X pins σ (upd H s.heap.objs.size (.tup [x, y])) { s with heap := h' } := fun h' hT hk => by
    have new : ObjOk X.prog X.w (upd H s.heap.objs.size (.tup [x, y])) h' s.heap.objs.size (.tup [x, y]) :=
      ⟨by show 2 ≤ sizeLine; decide, [u, u2], .cons ru (.cons ru2 .nil), ⟨_, hT, rfl, _, rfl⟩⟩
    exact I.turnedNew (t' := s.toks) (ch := [z, TI, TO, i1, i2]) (fun c o hb q => hk c o (fun q' => hb (by simp [q'])) (fun q' => hb (by simp [q'])) (fun q' => hb (by simp [q'])) (fun q' => hb (by simp [q'])) q) hf (Nat.le_refl _) new
  have hsz : ∀ c ∈ [z, TI, TO, i1, i2], s.heap.objs.size ≠ c := fun c hc => Nat.ne_of_gt (hlt c hc)
  have hTy : s.TypeIs (.ref z) "zip" := by rcases hz with hz | ⟨_, _, _, hz, _⟩ <;> exact ⟨_, hz, rfl⟩
  unfold pyNext
  rcases hz with hz | ⟨T, f, oT, hz, hT, d1, d2, d3⟩
  · refine wpAny_bind (wpAny_attempt (wpAny_callSpecial?_slot (name := Str.ofString "__next__") hTy F.slot_zip_next
      (wpAny_call_entry F.slot_zip_next hTy F.entry_zip_next
        (next_item D hz hTI hTO h1 h2 p.isList p2 (x := u) (y := u2) (by simpa using hu) (by simpa using hu2) fun h' b1 b2 b3 b4 b5 b6 b7 => wpAny_pure ?_) (F.args_zip_next_1 _))))
    exact ⟨s.heap.objs.size, rfl, I.fresh, fin h' b5 b7, ⟨b7 _ _ D.TIz D.TITO D.TIi1 D.TIi2 hTI, b3, b4, ⟨_, _, b2⟩, .inr ⟨s.heap.objs.size, false, _, b1, b5, hsz z (by simp), hsz i1 (by simp), hsz i2 (by simp)⟩⟩, hfT⟩
  · refine wpAny_bind (wpAny_attempt (wpAny_callSpecial?_slot (name := Str.ofString "__next__") hTy F.slot_zip_next
      (wpAny_call_entry F.slot_zip_next hTy F.entry_zip_next
        (next_item_held D hz hT hTI h1 h2 p.isList p2 (x := u) (y := u2) (by simpa using hu) (by simpa using hu2) fun h' b1 b3 b4 b5 b6 b7 => wpAny_pure ?_) (F.args_zip_next_1 _))))
    exact ⟨s.heap.objs.size, rfl, I.fresh, fin h' b5 fun c o c1 _ c3 c4 e => b7 c o c1 c3 c4 e, ⟨b7 _ _ D.TIz D.TIi1 D.TIi2 hTI, b3, b4, ⟨_, _, b7 _ _ D.TOz D.TOi1 D.TOi2 hTO⟩, .inr ⟨T, true, _, b1, b7 _ _ d1 d2 d3 hT, d1, d2, d3⟩⟩, hfT⟩
theorem py_done {i : Nat} {xs ys : List V} {E : Value → Shared → Prop} (hh : A1.handled = none) (D : ZipApart z TI TO i1 i2 a b) (I : Inv X pins σ H s) (hf : ∀ c ∈ [z, TI, TO, i1, i2], FpOk X pins H c) (st : ZSt z TI TO i1 i2 a b i s.heap) (hqx : SqL X.K H a xs) (hqy : SqT X.K H b ys) (hend : xs.length ≤ i ∨ ys.length ≤ i) :
    wpAny (model X.prog X.w) A1 (pyNext (.ref z)) (fun r s' => r = none ∧ Inv X pins σ H s') E s := by
  obtain ⟨hTI, h1, h2, ⟨x0, y0, hTO⟩, hz⟩ := st
  obtain ⟨its, rv, p, _⟩ := I.list hqx
  obtain ⟨its2, rv2, p2, _⟩ := I.tuple hqy
  have l1 := rv.length
  have l2 := rv2.length
  have he : its.toArray[i]? = none ∨ its2.toArray[i]? = none := by
    rcases hend with q | q
    · exact .inl (by simp; omega)
    · exact .inr (by simp; omega)
  have hTy : s.TypeIs (.ref z) "zip" := by rcases hz with hz | ⟨_, _, _, hz, _⟩ <;> exact ⟨_, hz, rfl⟩
  unfold pyNext
  rcases hz with hz | ⟨T, f, oT, hz, hT, d1, d2, d3⟩
  · refine wpAny_bind (wpAny_attempt (wpAny_callSpecial?_slot (name := Str.ofString "__next__") hTy F.slot_zip_next
      (wpAny_call_entry F.slot_zip_next hTy F.entry_zip_next (next_end hh D hz hTI hTO h1 h2 p.isList p2 he fun h' e hk hx => ?_) (F.args_zip_next_1 _))))
    obtain ⟨o, ho, hc⟩ := hx
    refine wpAny_bind (wpAny_isInstance (T := "StopIteration") (b := true) ⟨o, ho, hc⟩ isSubtype_stop ?_)
    exact wpAny_pure ⟨rfl, I.turnedL (t' := s.toks) (ch := [z, TI, TO, i1, i2]) (fun c o hb q => hk c o (fun q' => hb (by simp [q'])) (fun q' => hb (by simp [q'])) (fun q' => hb (by simp [q'])) (fun q' => hb (by simp [q'])) q) hf⟩
  · refine wpAny_bind (wpAny_attempt (wpAny_callSpecial?_slot (name := Str.ofString "__next__") hTy F.slot_zip_next
      (wpAny_call_entry F.slot_zip_next hTy F.entry_zip_next (next_end_held hh D hz hT hTI h1 h2 p.isList p2 he fun h' e hk hx => ?_) (F.args_zip_next_1 _))))
    obtain ⟨o, ho, hc⟩ := hx
    refine wpAny_bind (wpAny_isInstance (T := "StopIteration") (b := true) ⟨o, ho, hc⟩ isSubtype_stop ?_)
    exact wpAny_pure ⟨rfl, I.turnedL (t' := s.toks) (ch := [z, TI, TO, i1, i2]) (fun c o hb q => hk c o (fun q' => hb (by simp [q'])) (fun q' => hb (by simp [q'])) (fun q' => hb (by simp [q'])) q) hf⟩
end
theorem zip_no_len : typeLookup (.type "zip") "__len__" = pure none := by rw [typeLookup_type, builtinLookup_eq_fast]; kernel_rfl
theorem zip_no_hint : typeLookup (.type "zip") "__length_hint__" = pure none := by rw [typeLookup_type, builtinLookup_eq_fast]; kernel_rfl
section
variable {X : Cx} {Z : Nm} {pins : List (Addr × Obj)} {σ : St} {z TI TO i1 i2 a b q : Addr} {A1 : Around} {ds es : List D}
theorem zip_at {i : Nat} {d e : D} (h1 : ds[i]? = some d) (h2 : es[i]? = some e) : (zipD ds es).take (i + 1) = (zipD ds es).take i ++ [.tup [d, e]] := by
  have h : (zipD ds es)[i]? = some (.tup [d, e]) := by
    unfold zipD
    rw [List.getElem?_map, List.getElem?_zip_eq_some (z := (d, e)) |>.mpr ⟨h1, h2⟩]
    rfl
  rw [List.take_add_one, h]
  rfl
theorem sto_twice {S : Sto} {p : Addr} {c d : Cell} : (S.upd p c).upd p d = S.upd p d := by
  funext x
  by_cases e : x = p
  · rw [e, Sto.upd_same, Sto.upd_same]
  · rw [Sto.upd_ne e, Sto.upd_ne e, Sto.upd_ne e]
theorem ZSt.upd {i : Nat} {h : Heap} {f : Array Value → Array Value} {its : Array Value} {n : Nat} (st : ZSt z TI TO i1 i2 a b i h) (e : h.get? q = some { cls := .type "list", data := .seq its n }) (hq : q ∉ [z, TI, TO, i1, i2]) : ZSt z TI TO i1 i2 a b i (h.update q (Obj.mapSeq f)) := by
  have k : ∀ c, c ∈ [z, TI, TO, i1, i2] → ∀ o, h.get? c = some o → (h.update q (Obj.mapSeq f)).get? c = some o := fun c hc o ho =>
    (Heap.get?_update_other _ _ (fun x => hq (by rw [x]; exact hc))).trans ho
  obtain ⟨hTI, h1, h2, ⟨x0, y0, hTO⟩, hz⟩ := st
  refine ⟨k TI (by simp) _ hTI, h1.at fun o q => k i1 (by simp) o q, h2.at fun o q => k i2 (by simp) o q, ⟨x0, y0, k TO (by simp) _ hTO⟩, ?_⟩
  rcases hz with hz | ⟨T, f', oT, hz, hT, d⟩
  · exact .inl (k z (by simp) _ hz)
  · by_cases ht : T = q
    · subst ht
      exact .inr ⟨T, f', _, k z (by simp) _ hz, Heap.get?_update_self (Obj.mapSeq f) e rfl, d⟩
    · exact .inr ⟨T, f', oT, k z (by simp) _ hz, (Heap.get?_update_other _ _ (Ne.symm ht)).trans hT, d⟩
/-- what the loop keeps -/
structure ZL (X : Cx) (Z : Nm) (pins : List (Addr × Obj)) (σ : St) (z TI TO i1 i2 a b q : Addr) (ds es : List D) (H0 : Hp) (S0 : Sto) (i : Nat) (H : Hp) (s : Shared) : Prop where
  inv : Inv X pins σ H s
  sr : SR Z (S0.upd q (.lst ((zipD ds es).take i))) H
  tk : TK H0 H
  ra : rd S0 a = some ds
  tb : ∃ us, TupAt X.K H b us ∧ RDs Z H es us
  st : ZSt z TI TO i1 i2 a b i s.heap
  fp : ∀ c ∈ [z, TI, TO, i1, i2], FpOk X pins H c
theorem ext_loop {H0 : Hp} {S0 : Sto} {Rs : Result → Shared → Prop} (hK : Z.K = X.K) (hh : A1.in1.handled = none) (D : ZipApart z TI TO i1 i2 a b) (hq0 : S0 q = none) (hqf : q ∉ [z, TI, TO, i1, i2]) (hz : (zipD ds es).length < sizeLine)
    (hR : ∀ H s, Inv X pins σ H s → SR Z (S0.upd q (.lst (zipD ds es))) H → TK H0 H → Rs (.ok (.ret .none)) s) :
    ∀ (k i : Nat) (H : Hp) (s : Shared), min ds.length es.length - i = k → i ≤ min ds.length es.length → ZL X Z pins σ z TI TO i1 i2 a b q ds es H0 S0 i H s →
      codeAny (model X.prog X.w) A1 (.builtin "list.extend.loop" ⟨[.ref q, .ref z, .none], []⟩) Rs s := by
  intro k
  induction k with
  | zero =>
    intro i H s hk hi L
    have ne : a ≠ q := fun e => by have := L.ra; unfold rd at this; rw [e, hq0] at this; cases this
    have ra' : rd (S0.upd q (.lst ((zipD ds es).take i))) a = some ds := by unfold rd; rw [Sto.upd_ne ne]; exact L.ra
    obtain ⟨vs, sq, rs⟩ := rdAt (K := X.K) L.sr ra'
    obtain ⟨us, squ0, ru⟩ := L.tb
    have squ := squ0.sq
    refine codeAny_builtin F.entry_extend_loop ?_
    rw [Around.under_plainId F.plain_extend_loop _]
    show wpAny _ A1.in1 (pyNext (.ref z) >>= _) _ _ s
    refine wpAny_bind (wpAny_mono (py_done hh D L.inv L.fp L.st sq squ (by rw [← rs.length, ← ru.length]; omega)) (fun r s' hr => ?_) fun e s' he => he)
    obtain ⟨rfl, I'⟩ := hr
    refine wpAny_pure (hR H s' I' ?_ L.tk)
    have e : (zipD ds es).take i = zipD ds es := List.take_of_length_le (by unfold zipD; rw [List.length_map, List.length_zip]; omega)
    have := L.sr
    rw [e] at this
    exact this
  | succ k ih =>
    intro i H s hk hi L
    have ne : a ≠ q := fun e => by have := L.ra; unfold rd at this; rw [e, hq0] at this; cases this
    have ra' : rd (S0.upd q (.lst ((zipD ds es).take i))) a = some ds := by unfold rd; rw [Sto.upd_ne ne]; exact L.ra
    obtain ⟨vs, sq, rs⟩ := rdAt (K := X.K) L.sr ra'
    obtain ⟨us, squ0, ru⟩ := L.tb
    have squ := squ0.sq
    have hi1 : i < ds.length := by omega
    have hi2 : i < es.length := by omega
    obtain ⟨x, hx, rx⟩ := rs.get (List.getElem?_eq_getElem hi1)
    obtain ⟨y, hy, ry⟩ := ru.get (List.getElem?_eq_getElem hi2)
    refine codeAny_builtin F.entry_extend_loop ?_
    rw [Around.under_plainId F.plain_extend_loop _]
    show wpAny _ A1.in1 (pyNext (.ref z) >>= _) _ _ s
    refine wpAny_bind (wpAny_mono (py_item D L.inv L.fp L.st sq squ hx hy) (fun r s' hr => ?_) fun e s' he => he)
    obtain ⟨T, rfl, hT, I', st', fp'⟩ := hr
    have tk1 : TK H (upd H T (.tup [x, y])) := TK.new hT
    have sr1 := L.sr.new (o := .tup [x, y]) hT
    obtain ⟨ws, hqH, rw_⟩ := sr1 q _ Sto.upd_same
    show wpAny _ A1.in1 (updateSeq q (·.push (.ref T)) >>= _) _ _ _
    obtain ⟨zz, its, kk, r2, hl, e⟩ := I'.lstM hqH
    have hlen : ws.length = i := by rw [← rw_.length, List.length_take]; unfold zipD; rw [List.length_map, List.length_zip]; omega
    have hiz : i < (zipD ds es).length := by unfold zipD; rw [List.length_map, List.length_zip]; omega
    refine wpAny_bind (wpAny_updateSeq e rfl (wpAny_pure ⟨plainId_quiet PySem.F.plain_extend_loop _, ?_⟩) (by rw [List.size_toArray]; omega) (by show (its.toArray.push (.ref T)).size ≤ sizeLine + 1; rw [Array.size_push, List.size_toArray]; omega))
    have I2 := I'.lset (f := (·.push (Value.ref T))) (its' := its ++ [.ref T]) (ys := ws ++ [.ref T]) (t' := s'.toks) hqH e (by simp) (r2.append (.cons (show RelV (V.ref T) (Value.ref T) from rfl) .nil)) (by rw [List.length_append, List.length_singleton]; omega)
    have tk2 : TK (upd H T (.tup [x, y])) (upd (upd H T (.tup [x, y])) q (.lst (ws ++ [.ref T]))) := TK.mut hqH True.intro
    have rt : RD Z (upd H T (.tup [x, y])) (.tup [ds[i], es[i]]) (.ref T) := .tup (.inl upd_same) (.cons (rx.keep tk1) (.cons (ry.keep tk1) .nil))
    refine ih (i + 1) _ _ (by omega) (by omega) ⟨I2, ?_, (L.tk.trans tk1).trans tk2, L.ra, ?_, ?_, fun c hc => ⟨?_, (fp' c hc).2⟩⟩
    · rw [zip_at (List.getElem?_eq_getElem hi1) (List.getElem?_eq_getElem hi2)]
      have := sr1.put (c := .lst ((zipD ds es).take i ++ [.tup [ds[i], es[i]]])) tk2 ⟨_, upd_same, (rw_.append (.cons rt .nil)).keep tk2⟩
      rw [sto_twice] at this
      exact this
    · exact ⟨us, (squ0.keep tk1).keep tk2, (ru.keep tk1).keep tk2⟩
    · exact st'.upd e hqf
    · rw [upd_ne (fun e => hqf (by rw [← e]; exact hc))]; exact (fp' c hc).1
end
section
variable {X : Cx} {Z : Nm} {pins : List (Addr × Obj)} {σ : St} {ds es : List D}
theorem hint_zip {prog : Program} {w : World} {A : Around} {E : Value → Shared → Prop} {s : Shared} {z : Addr} {Q : Bool → Shared → Prop} (hT : s.TypeIs (.ref z) "zip") (h : Q true s) : wpAny (model prog w) A (Builtin.List.listLengthHint (.ref z)) Q E s := by
  unfold Builtin.List.listLengthHint
  refine wpAny_bind (wpAny_specialOf hT zip_no_len ?_)
  show wpAny _ A (specialOf (Value.ref z) (Str.ofString "__length_hint__") >>= _) _ _ _
  refine wpAny_bind (wpAny_specialOf hT zip_no_hint ?_)
  exact wpAny_pure h
theorem ZSt.ty {z TI TO i1 i2 a b : Addr} {i : Nat} {s : Shared} (st : ZSt z TI TO i1 i2 a b i s.heap) : s.TypeIs (.ref z) "zip" := by
  obtain ⟨_, _, _, _, hz⟩ := st
  rcases hz with hz | ⟨_, _, _, hz, _⟩ <;> exact ⟨_, hz, rfl⟩
theorem ZSt.self {prog : Program} {w : World} {A : Around} {E : Value → Shared → Prop} {z TI TO i1 i2 a b : Addr} {s : Shared} {Q : Value → Shared → Prop} (hz : IsZip s.heap z TI TO .none) (h : Q (.ref z) s) : wpAny (model prog w) A (pyIter (.ref z)) Q E s := wpAny_pyIter_zip hz h
/-- list.extend of a fresh zip -/
theorem zip_extend {A1 : Around} {Rs : Result → Shared → Prop} {H0 : Hp} {S0 : Sto} {z TI TO i1 i2 a b q : Addr} {H : Hp} {s : Shared} (hK : Z.K = X.K) (hh : A1.in1.handled = none) (D : ZipApart z TI TO i1 i2 a b) (hq0 : S0 q = none) (hqf : q ∉ [z, TI, TO, i1, i2]) (hz : (zipD ds es).length < sizeLine)
    (hzip : IsZip s.heap z TI TO .none) (L : ZL X Z pins σ z TI TO i1 i2 a b q ds es H0 S0 0 H s)
    (hR : ∀ H s, Inv X pins σ H s → SR Z (S0.upd q (.lst (zipD ds es))) H → TK H0 H → Rs (.ok (.ret .none)) s) :
    wpAny (model X.prog X.w) A1.in1 (Builtin.List.listExtendWith (.ref q) (.ref z) .none)
      (fun fin s' => match fin with | .done f => Rs (.ok f) s' | .again c' => c'.quiet = true ∧ codeAny (model X.prog X.w) A1 c' Rs s') (fun e s' => Rs (.error e) s') s := by
  have hne : q ≠ z := fun e => hqf (by rw [e]; simp)
  unfold Builtin.List.listExtendWith
  refine wpAny_bind (wpAny_typeOf L.st.ty ?_)
  have h1 : Builtin.List.listSameRef (.ref q) (.ref z) = false := by simp [Builtin.List.listSameRef, hne]
  have h2 : (Value.type "zip" == Value.type "list") = false := by decide
  have h3 : (Value.type "zip" == Value.type "tuple") = false := by decide
  simp only [h1, h2, h3, Bool.or_false, Bool.false_eq_true, if_false]
  refine wpAny_bind (wpAny_pyIter_zip hzip ?_)
  refine wpAny_bind (wpAny_holding (hint_zip L.st.ty ?_))
  have hS := L.sr q _ Sto.upd_same
  rw [List.take_zero] at hS
  obtain ⟨ws, hqH, rw_⟩ := hS
  cases rw_
  refine wpAny_ite_split (fun _ => ?_) (fun _ => wpAny_pure ⟨plainId_quiet PySem.F.plain_extend_loop _, ext_loop hK hh D hq0 hqf hz hR _ 0 H s rfl (Nat.zero_le _) L⟩)
  refine wpAny_bind (wpAny_rule ?_)
  refine wpAny_bind ?_
  show wpAny _ _ (updateSeq q (·.push .none) >>= fun _ => updateSeq q (·.pop)) _ _ _
  obtain ⟨z3, its, k3, r3, hl3, e3⟩ := L.inv.lstM hqH
  cases r3
  refine wpAny_bind (wpAny_updateSeq e3 rfl ?_)
  have I2 := L.inv.lset (f := (·.push Value.none)) (its' := [Value.none]) (ys := [.non]) (t' := s.toks) hqH e3 (by simp) (.cons rfl .nil) (by rw [List.length_singleton, sizeLine_eq]; decide)
  obtain ⟨z4, its4, k4, r4, hl4, e4⟩ := I2.lstM upd_same
  obtain ⟨u4, rfl, ru4⟩ := r4.one
  refine wpAny_updateSeq e4 rfl ?_ (by show 1 ≤ sizeLine; rw [sizeLine_eq]; decide) (by show 0 ≤ sizeLine + 1; exact Nat.zero_le _)
  have I3 := I2.lset (f := (·.pop)) (its := [u4]) (its' := []) (ys := []) (t' := s.toks) upd_same e4 (by rfl) .nil (Nat.zero_le _)
  rw [upd_upd] at I3
  have hH : upd H q (.lst []) = H := by
    funext b
    by_cases hb : b = q
    · rw [hb, upd_same, hqH]
    · rw [upd_ne hb]
  rw [hH] at I3
  refine wpAny_pure ⟨plainId_quiet PySem.F.plain_extend_loop _, ext_loop hK hh D hq0 hqf hz hR _ 0 H _ rfl (Nat.zero_le _) ⟨I3, L.sr, L.tk, L.ra, L.tb, (L.st.upd e3 hqf).upd e4 hqf, L.fp⟩⟩
end
/-- list(zip(a, b)) of a list and a tuple -/
def tLZ (Z : Nm) (K : PySem.W.Frag) (ta : TA) : TE := fun σ H Q => ta σ H fun vs H1 => ∃ (a b : Addr) (ds es : List D) (S : Sto), vs = [.ref a, .ref b] ∧ SR Z S H1 ∧ rd S a = some ds ∧ (∃ us, TupAt K H1 b us ∧ RDs Z H1 es us) ∧ (zipD ds es).length < sizeLine ∧
  ∀ q H', S q = none → TK H1 H' → SR Z (S.upd q (.lst (zipD ds es))) H' → Q (.ref q) H'
theorem pe_lzip {X : Cx} {Z : Nm} {e e2 : Expr} {ta : TA} {p p2 pos pos2 : Pos} (hK : Z.K = X.K) (hc : X.calm = true) (hg : Gl X "list") (hm : X.mg "list" = none) (hg2 : Gl X "zip") (hm2 : X.mg "zip" = none) (ha : PA X [e, e2] ta)
    (hs : starEach [e, e2] X.env = (false, eval e X.env) :: starEach [e2] X.env) (hpl : (backTo pos2 (starEach [e2] X.env)).any (·.1) = false) :
    PE X (.Call (.Name "list" p) [.Call (.Name "zip" p2) [e, e2] [] pos2] [] pos) (tLZ Z X.K ta) := by
  refine ⟨fun pins s σ H Q I h => ?_⟩
  refine Call_ (ld_blt I hg hm PyProof.Rows.boot_list ?_)
  refine PyProof.Rows.callWith_type1 (PyProof.Rows.args_cons ?_ rfl) rfl rfl
  refine Call_ (ld_blt I hg2 hm2 PyProof.Rows.boot_zip (PyProof.Rows.callWith_type1 (thn (ha.run pos2 pins s σ H _ I h) fun us s1 ⟨vs, H1, I1, r1, q1⟩ => ?_) hs hpl))
  obtain ⟨a, b, ds, es, S, ex, sr, ra, ⟨ws, tb, ru⟩, hz, q1⟩ := q1
  subst ex
  cases r1 with
  | cons r rr =>
    cases rr with
    | cons r' rr =>
      cases rr
      cases r
      cases r'
      obtain ⟨xs, hqx, rx⟩ := rdAt (K := X.K) sr ra
      obtain ⟨its, rv, p1, _⟩ := I1.list hqx
      obtain ⟨its2, rv2, p2, _⟩ := I1.tuple tb.sq
      obtain ⟨o2, ho2, _⟩ := id p2
      have fresh5 : ∀ c, c ∈ [s1.heap.objs.size + 4, s1.heap.objs.size + 2, s1.heap.objs.size + 3, s1.heap.objs.size, s1.heap.objs.size + 1] → FpOk X pins H1 c := fun c hcm => by
        have e' : c = s1.heap.objs.size + 4 ∨ c = s1.heap.objs.size + 2 ∨ c = s1.heap.objs.size + 3 ∨ c = s1.heap.objs.size ∨ c = s1.heap.objs.size + 1 := by simpa using hcm
        have hle : s1.heap.objs.size ≤ c := by
          rcases e' with z | z | z | z | z
          · rw [z]; exact Nat.le_add_right _ _
          · rw [z]; exact Nat.le_add_right _ _
          · rw [z]; exact Nat.le_add_right _ _
          · rw [z]; exact Nat.le_refl _
          · rw [z]; exact Nat.le_add_right _ _
        exact I1.fpOk hle (I1.hok.fresh hle)
      refine call_zip p1.isList (show s1.heap.IsTuple b its2.toArray from p2) fun h' hzp hTI hTO h1 h2 hsz hk => ?_
      have I2 : Inv X pins σ H1 { s1 with heap := h' } := I1.kept (t' := s1.toks) hk
      have D : ZipApart (s1.heap.objs.size + 4) (s1.heap.objs.size + 2) (s1.heap.objs.size + 3) s1.heap.objs.size (s1.heap.objs.size + 1) a b := PySem.W.ktu_apart s1.heap.objs.size a b p1.lt (Heap.lt_size ho2)
      refine PyProof.Rows.args_nil ?_
      refine callType_codes (Q₁ := fun obj s₁ => obj = .ref h'.objs.size ∧ s₁ = { s1 with heap := h'.push { cls := .type "list", data := .seq #[] } }) PySem.F.called_list (PySem.F.typeCall_list_1 _) PySem.F.entry_list_init
        (code_list_new _ ⟨rfl, rfl⟩) fun obj s₁ h₁ => ?_
      obtain ⟨rfl, rfl⟩ := h₁
      have hS : (h'.push { cls := .type "list", data := .seq #[] }).get? h'.objs.size = some { cls := .type "list", data := .seq #[] } := Heap.get?_push_size _ rfl
      refine ⟨⟨_, hS, rfl⟩, PySem.F.args_list_init_2 _ _, ?_⟩
      have fr : H1 h'.objs.size = none := I2.hok.fresh (Nat.le_refl _)
      have I3 : Inv X pins σ (upd H1 h'.objs.size (.lst [])) { s1 with heap := h'.push { cls := .type "list", data := .seq #[] } } := I2.lnew (its := []) (t' := s1.toks) .nil (Nat.zero_le _)
      show wpAny _ _ (do let old ← Builtin.List.listItems (.ref h'.objs.size); Builtin.List.listUpdate (.ref h'.objs.size) (fun _ => #[]); letGo old.toList.reverse; Builtin.List.listExtendWith (.ref h'.objs.size) (.ref (s1.heap.objs.size + 4)) .none) _ _ _
      refine wpAny_bind ?_
      unfold Builtin.List.listItems
      refine wpAny_bind (wpAny_seqItems hS rfl (wpAny_pure ?_))
      show wpAny _ _ (updateSeq h'.objs.size (fun _ => #[]) >>= fun _ => letGo (#[] : Array Value).toList.reverse >>= fun _ => Builtin.List.listExtendWith (.ref h'.objs.size) (.ref (s1.heap.objs.size + 4)) .none) _ _ _
      refine wpAny_bind (wpAny_updateSeq hS rfl ?_)
      have I4 := I3.lset (f := fun _ => #[]) (its := []) (its' := []) (ys := []) (t' := s1.toks) upd_same hS rfl .nil (Nat.zero_le _)
      rw [upd_upd] at I4
      refine wpAny_bind (wpAny_letGo ?_)
      have tk0 : TK H1 (upd H1 h'.objs.size (.lst [])) := TK.new fr
      have hq0 : S h'.objs.size = none := sr.free fr
      have hqf : h'.objs.size ∉ [s1.heap.objs.size + 4, s1.heap.objs.size + 2, s1.heap.objs.size + 3, s1.heap.objs.size, s1.heap.objs.size + 1] := by
        rw [hsz]
        simp only [List.mem_cons, List.not_mem_nil, or_false]
        omega
      have up : ∀ c o, c ≠ h'.objs.size → h'.get? c = some o → ((h'.push { cls := .type "list", data := .seq #[] }).update h'.objs.size (Obj.mapSeq fun _ => (#[] : Array Value))).get? c = some o := fun c o hcq ho =>
        (Heap.get?_update_other _ _ (Ne.symm hcq)).trans (Heap.get?_push_of_some _ ho)
      have n4 : s1.heap.objs.size + 4 ≠ h'.objs.size := by rw [hsz]; omega
      have n3 : s1.heap.objs.size + 3 ≠ h'.objs.size := by rw [hsz]; omega
      have n2 : s1.heap.objs.size + 2 ≠ h'.objs.size := by rw [hsz]; omega
      have n1 : s1.heap.objs.size + 1 ≠ h'.objs.size := by rw [hsz]; omega
      have n0 : s1.heap.objs.size ≠ h'.objs.size := by rw [hsz]; omega
      refine zip_extend (A1 := X.A.in1) (Rs := wants (fun r s₂ => r = .none ∧ EP X pins σ Q (.ref h'.objs.size) s₂) X.xe) hK (I1.ok.hd hc) D hq0 hqf hz (up _ _ n4 hzp) ⟨I4, ?_, tk0, ra, ⟨ws, tb.keep tk0, ru.keep tk0⟩, ⟨up _ _ n2 hTI, h1.at fun o q => up _ _ n0 q, h2.at fun o q => up _ _ n1 q, ⟨_, _, up _ _ n3 hTO⟩, .inl (up _ _ n4 hzp)⟩, fun c hcm => ⟨?_, (fresh5 c hcm).2⟩⟩ ?_
      · rw [List.take_zero]
        exact sr.put (c := .lst []) tk0 ⟨[], upd_same, .nil⟩
      · rw [upd_ne (fun e => hqf (by rw [← e]; exact hcm))]; exact (fresh5 c hcm).1
      · exact fun H' s' I' sr' tk' => ⟨rfl, .ref h'.objs.size, H', I', rfl, q1 _ _ hq0 tk' sr'⟩
/-! ### t += u of tuples -/
theorem noI_tuple_add : typeLookup (.type "tuple") (dunderI "add") = pure none := by rw [typeLookup_type, builtinLookup_eq_fast]; kernel_rfl
section
variable {prog : Program} {w : World} {A : Around} {E : Value → Shared → Prop} {s : Shared}
theorem iconcat_meets {T id : String} {B : Builtin} {a b : Value} {S : PySem.Spec} {Q : Value → Shared → Prop} (ha : s.TypeIs a T) (hb : s.TypeIs b T) (hno : typeLookup (.type T) (dunderI "add") = pure none)
    (hfill : fillsNumberSlot (.type T) "add" = pure false) (hseq : seqSlot? (.type T) "__add__" = pure (some (.builtin id))) (slot : Slot T "__add__" id)
    (entry : entryFor table id = some B) (args : argsOk id ⟨[a, b], []⟩) (g : Meets (B ⟨[a, b], []⟩) S) (h : S A (wants Q E) s) : wpAny (model prog w) A (inplaceOp .Add a b) Q E s :=
  wpAny_inplaceOp_concat ha hb hno hfill hseq (call_meets slot ha entry args g h)
end
section
open HT
variable {prog : Program} {w : World} {A : Around} {E : Value → Shared → Prop} {s : Shared}
theorem icat_tup0 {t b : Addr} {ws : List Value} {Q : Value → Shared → Prop} (ht : IsTup s.heap t ([] : List Value).toArray) (hb : IsTup s.heap b ws.toArray) (h : Q (.ref b) s) : wpAny (model prog w) A (inplaceOp .Add (.ref t) (.ref b)) Q E s := by
  obtain ⟨⟨cls, dd, data, sl⟩, ho, hc, n, hd⟩ := id ht
  obtain ⟨⟨cls2, dd2, data2, sl2⟩, ho2, hc2, n2, hd2⟩ := id hb
  simp only at hc hd hc2 hd2
  subst hc hd hc2 hd2
  exact iconcat_meets ⟨_, ho, rfl⟩ ⟨_, ho2, rfl⟩ noI_tuple_add noFill_tuple_add seq_tuple_add PySem.F.slot_tuple_add PySem.F.entry_tuple_add (PySem.F.args_tuple_add_2 _ _)
    (tuple_addW0 t b ([] : List Value).toArray ws.toArray n n2 dd dd2 sl sl2 (by simp)) ⟨ho, ho2, h⟩
theorem icat_tup {t b : Addr} {vs ws : List Value} {Q : Value → Shared → Prop} (ht : IsTup s.heap t vs.toArray) (hb : IsTup s.heap b ws.toArray) (hv : vs ≠ [])
    (h1 : ws = [] → Q (.ref t) s) (h2 : ws ≠ [] → Q (.ref s.heap.objs.size) { s with heap := s.heap.push { cls := .type "tuple", data := .seq (vs ++ ws).toArray } })
    (hsz : vs.length + ws.length ≤ sizeLine) : wpAny (model prog w) A (inplaceOp .Add (.ref t) (.ref b)) Q E s := by
  obtain ⟨⟨cls, dd, data, sl⟩, ho, hc, n, hd⟩ := id ht
  obtain ⟨⟨cls2, dd2, data2, sl2⟩, ho2, hc2, n2, hd2⟩ := id hb
  simp only at hc hd hc2 hd2
  subst hc hd hc2 hd2
  have e : vs.toArray ++ ws.toArray = (vs ++ ws).toArray := by simp
  by_cases hw : ws = []
  · exact iconcat_meets ⟨_, ho, rfl⟩ ⟨_, ho2, rfl⟩ noI_tuple_add noFill_tuple_add seq_tuple_add PySem.F.slot_tuple_add PySem.F.entry_tuple_add (PySem.F.args_tuple_add_2 _ _)
      (tuple_addW1 t b vs.toArray ws.toArray n n2 dd dd2 sl sl2 (by simpa using hv) (by simp [hw])) ⟨ho, ho2, h1 hw⟩
  · refine iconcat_meets ⟨_, ho, rfl⟩ ⟨_, ho2, rfl⟩ noI_tuple_add noFill_tuple_add seq_tuple_add PySem.F.slot_tuple_add PySem.F.entry_tuple_add (PySem.F.args_tuple_add_2 _ _)
      (tuple_addW2 t b vs.toArray ws.toArray n n2 dd dd2 sl sl2 (by simpa using hv) (by simpa using hw) (by rw [List.size_toArray, List.size_toArray]; exact hsz)) ⟨ho, ho2, ?_⟩
    rw [e]
    exact h2 hw
end
theorem iop_catA {X : Cx} : OpR X (inplaceOp .Add) (rCatA X.K) := by
  intro pins s σ H x y v u Q I rx ry h
  obtain ⟨a, b, xs, ys, rfl, rfl, ha, hb, hz, q0, q1, q2⟩ := h
  cases rx
  cases ry
  obtain ⟨its, r1, p1, _⟩ := I.tuple ha
  obtain ⟨its2, r2, p2, _⟩ := I.tuple hb
  by_cases hx : xs = []
  · subst hx
    cases r1
    exact icat_tup0 p1 p2 ⟨.ref b, H, I, rfl, q0 rfl⟩
  · refine icat_tup p1 p2 (fun z => hx (r1.nil_iff.mp z)) (fun z => ⟨.ref a, H, I, rfl, q1 hx (r2.nil_iff.mp z)⟩) (fun z => ?_) (by rw [← r1.length, ← r2.length]; exact hz)
    refine ⟨.ref s.heap.objs.size, _, I.laid (t' := s.toks) (o := .tup (xs ++ ys)) (fun b ob q => Heap.get?_push_of_some _ q) (Nat.le_refl _) ?_, rfl, q2 hx (fun w => z (r2.nil_iff.mpr w)) _ (I.hok.fresh (Nat.le_refl _))⟩
    exact ⟨by rw [List.length_append]; exact hz, _, r1.append r2, IsTup.new _ _⟩
end ZM
end Mini
end L2
/-! Mini: a sign times a number; repr of a bool -/
namespace L2
namespace Mini
namespace ZM
open PySem PySem.Spec PyProof.Rows
section
variable {X : Cx}
theorem st_mul1 (c : Nat) (k : Int) : Txt.mul (st [c]) k = st (List.replicate k.toNat c) := by
  refine PySem.Str.ext' (Array.toList_inj.mp ?_)
  have := mul_one_list c k
  show (Txt.mul (st [c]) k).cps.toList = _
  rw [show st [c] = (⟨#[c]⟩ : Str) from rfl, this]
  simp [st]
theorem op_mul_s1 : OpR X (binaryOp .Mult) (fun x y H Q => ∃ c k, x = V.str (st [c]) ∧ y = .int k ∧ 0 ≤ k ∧ k ≤ 1000000 ∧ Q (.str (st (List.replicate k.toNat c))) H) := by
  intro pins s σ H x y v u Q I rx ry h
  obtain ⟨c, k, rfl, rfl, h0, h1, q⟩ := h
  obtain ⟨t, rfl⟩ := rx
  obtain ⟨t2, rfl⟩ := ry
  have hl : (st [c]).length = 1 := by simp [st_length]
  refine PySem.SB.mul (x := st [c]) ⟨?_, fun h _ => ?_, fun h _ => ?_⟩ fun t' k' => ?_
  · rw [decide_eq_false (by omega), decide_eq_false (by omega)] <;> rfl
  · rw [hl]
    have : (1 : Int) ≤ (2 ^ 63 - 1) / k := by
      refine Int.le_ediv_of_mul_le (by omega) (by omega)
    omega
  · rw [hl]
    exact decide_eq_false (by rw [sizeLine_eq]; omega)
  · rw [st_mul1]
    exact ⟨.str _, H, I.tok _, ⟨_, rfl⟩, q⟩
theorem call_repr_bl : CallR X (.builtin "repr") (fun xs H Q => ∃ b, xs = [.bl b] ∧ Q (.str (if b then "True" else "False")) H) := by
  intro pins s σ H xs us Q I r h
  obtain ⟨b, rfl, q⟩ := h
  obtain ⟨u, rfl, rfl⟩ := vals1 r
  exact PySem.P.repr_of_bool ⟨.str _, H, I.tok _, ⟨_, rfl⟩, q⟩
end
end ZM
end Mini
end L2
namespace L2
namespace Mini
open PySem PySem.Spec PyProof.Rows
section
variable {X : Cx} {Z : Nm} {S : Sto} {H : Hp} {Qa : QD} {Q : VK}
/-! ### keys of dicts -/
theorem RK.val : ∀ {kvs : List (Ky × D)} {gs : List (Key × V)}, RK Z H kvs gs → ∀ k : Ky, (dget kvs k = none ∧ valV gs (kyS k) = none) ∨ ∃ d v, dget kvs k = some d ∧ valV gs (kyS k) = some v ∧ RD Z H d v
  | _, _, .nil, k => .inl ⟨rfl, rfl⟩
  | _, _, .cons (k := k0) (d := d) (v := v) (ks := ks) (gs := gs) r t, k => by
    by_cases e : k0 = k
    · subst e
      exact .inr ⟨d, v, by simp [dget], valV_pos rfl, r⟩
    · have e2 : ¬ (kyS k0, v).1 = kyS k := fun q => e (kyS_inj q)
      rw [valV_neg e2]
      have h1 : dget ((k0, d) :: ks) k = dget ks k := by simp [dget, List.find?_cons, e]
      rw [h1]
      exact RK.val t k
theorem RK.length : ∀ {kvs : List (Ky × D)} {gs : List (Key × V)}, RK Z H kvs gs → kvs.length = gs.length
  | _, _, .nil => rfl
  | _, _, .cons _ t => congrArg Nat.succ (RK.length t)
theorem RK.anyk : ∀ {kvs : List (Ky × D)} {gs : List (Key × V)}, RK Z H kvs gs → ∀ k : Ky, (kvs.any fun p => decide (p.1 = k)) = gs.any fun p => decide (p.1 = kyS k)
  | _, _, .nil, k => rfl
  | _, _, .cons (k := k0) r t, k => by
    rw [List.any_cons, List.any_cons, RK.anyk t k]
    by_cases e : k0 = k
    · subst e; simp
    · have e2 : ¬ kyS k0 = kyS k := fun q => e (kyS_inj q)
      simp [e, e2]
theorem RK.mapk {d : D} {v : V} (rd : RD Z H d v) (k : Ky) : ∀ {kvs : List (Ky × D)} {gs : List (Key × V)}, RK Z H kvs gs →
    RK Z H (kvs.map fun p => if p.1 = k then (p.1, d) else p) (gs.map fun p => if p.1 = kyS k then (p.1, v) else p)
  | _, _, .nil => .nil
  | _, _, .cons (k := k0) (d := d0) (v := v0) r t => by
    rw [List.map_cons, List.map_cons]
    by_cases e : k0 = k
    · subst e
      rw [if_pos rfl, if_pos rfl]
      exact .cons rd (RK.mapk rd k0 t)
    · have e2 : ¬ kyS k0 = kyS k := fun q => e (kyS_inj q)
      rw [if_neg e, if_neg e2]
      exact .cons r (RK.mapk rd k t)
theorem RK.snoc {d : D} {v : V} (rd : RD Z H d v) (k : Ky) : ∀ {kvs : List (Ky × D)} {gs : List (Key × V)}, RK Z H kvs gs → RK Z H (kvs ++ [(k, d)]) (gs ++ [(kyS k, v)])
  | _, _, .nil => .cons rd .nil
  | _, _, .cons r t => .cons r (RK.snoc rd k t)
theorem RK.put {d : D} {v : V} (rd : RD Z H d v) (k : Ky) {kvs : List (Ky × D)} {gs : List (Key × V)} (r : RK Z H kvs gs) : RK Z H (dput kvs k d) (putK gs (kyS k) v) := by
  unfold dput putK
  rw [r.anyk k]
  split
  · exact r.mapk rd k
  · exact r.snoc rd k
theorem RF.get (f : Nat) (hf : f < Z.nf) : ∀ {fs : List (Nat × D)} {gs : List (Str × V)} {d : D}, RF Z H fs gs → fget fs f = some d → ∃ v, gs.lookup (Z.fld f) = some v ∧ RD Z H d v
  | _, _, _, .nil, e => by cases e
  | _, _, d, .cons (i := i) (v := v) (gs := gs) l r t, e => by
    unfold fget at e
    by_cases q : f = i
    · subst q
      rw [if_pos rfl] at e
      cases e
      refine ⟨v, ?_, r⟩
      rw [List.lookup_cons]; simp
    · rw [if_neg q] at e
      obtain ⟨u, h1, h2⟩ := RF.get f hf t e
      refine ⟨u, ?_, h2⟩
      rw [List.lookup_cons]
      have hb : (Z.fld f == Z.fld i) = false := beq_eq_false_iff_ne.mpr fun z => q (Z.inj _ _ hf l z)
      rw [hb]; exact h1
theorem RF.put (f : Nat) (hf : f < Z.nf) {d : D} {v : V} (rd : RD Z H d v) : ∀ {fs : List (Nat × D)} {gs : List (Str × V)}, RF Z H fs gs → RF Z H (fput f d fs) (putF (Z.fld f) v gs)
  | _, _, .nil => .cons hf rd .nil
  | _, _, .cons (i := i) l r t => by
    unfold fput putF
    by_cases q : i = f
    · subst q
      rw [if_pos rfl, if_pos rfl]
      exact .cons l rd t
    · rw [if_neg q, if_neg fun z => q (Z.inj _ _ l hf z)]
      exact .cons l r (RF.put f hf rd t)
theorem RF.length : ∀ {fs : List (Nat × D)} {gs : List (Str × V)}, RF Z H fs gs → fs.length = gs.length
  | _, _, .nil => rfl
  | _, _, .cons _ _ t => congrArg Nat.succ (RF.length t)
/-- no method's name is an attribute -/
theorem RF.none (m : Str) (hm : ∀ i, i < Z.nf → Z.fld i ≠ m) : ∀ {fs : List (Nat × D)} {gs : List (Str × V)}, RF Z H fs gs → gs.lookup m = Option.none
  | _, _, .nil => rfl
  | _, _, .cons (i := i) l r t => by
    rw [List.lookup_cons]
    have hb : (m == Z.fld i) = false := beq_eq_false_iff_ne.mpr fun z => hm i l z.symm
    rw [hb]; exact RF.none m hm t
/-! ### in -/
theorem op_inDict (hu : X.A.units + 1 < cLine) : OpR X (compareOp .In) (fun x y H Q => ∃ a o, y = .ref a ∧ DGet H a x o ∧ Q (.bl o.isSome) H) := by
  intro pins s σ H x y v u Q I rx ry h
  obtain ⟨a, o, rfl, g, q⟩ := h
  cases ry
  exact d_in hu I g rx fun s' I' => ⟨.bl _, H, I', rfl, q⟩
theorem op_notInDict (hu : X.A.units + 1 < cLine) : OpR X (compareOp .NotIn) (fun x y H Q => ∃ a o, y = .ref a ∧ DGet H a x o ∧ Q (.bl (!o.isSome)) H) := by
  intro pins s σ H x y v u Q I rx ry h
  obtain ⟨a, o, rfl, g, q⟩ := h
  cases ry
  exact d_notIn hu I g rx fun s' I' => ⟨.bl _, H, I', rfl, q⟩
theorem op_inR (hu : X.A.units + 620 < cLine) : OpR X (compareOp .In) (fun x y H Q => ∃ d ds, Dp X.K H x d ∧ (Dp X.K H y (.list ds) ∨ Dp X.K H y (.tuple ds)) ∧ d.canLay0 = true ∧ PyData.canLayAll0 ds = true ∧ d.depth ≤ 180 ∧ Q (.bl (ds.any fun z => PyData.eqv z d)) H) := by
  intro pins s σ H x y v u Q I rx ry h
  obtain ⟨d, ds, hd, he, sd, se, hr, q⟩ := h
  obtain ⟨as, r1⟩ := Dp.reads I d x v hd rx
  have hm : min (PyData.depthAll ds) d.depth ≤ d.depth := Nat.min_le_right _ _
  rcases he with he | he
  · obtain ⟨bs, r2⟩ := Dp.reads I (.list ds) y u he ry
    exact SeqAt.in_list_reads r2 r1 se sd (by omega) ⟨.bl _, H, I, rfl, q⟩
  · obtain ⟨bs, r2⟩ := Dp.reads I (.tuple ds) y u he ry
    exact SeqAt.in_tuple_reads r2 r1 se sd (by omega) ⟨.bl _, H, I, rfl, q⟩
theorem op_notInR (hu : X.A.units + 620 < cLine) : OpR X (compareOp .NotIn) (fun x y H Q => ∃ d ds, Dp X.K H x d ∧ (Dp X.K H y (.list ds) ∨ Dp X.K H y (.tuple ds)) ∧ d.canLay0 = true ∧ PyData.canLayAll0 ds = true ∧ d.depth ≤ 180 ∧ Q (.bl (!ds.any fun z => PyData.eqv z d)) H) := by
  intro pins s σ H x y v u Q I rx ry h
  obtain ⟨d, ds, hd, he, sd, se, hr, q⟩ := h
  obtain ⟨as, r1⟩ := Dp.reads I d x v hd rx
  have hm : min (PyData.depthAll ds) d.depth ≤ d.depth := Nat.min_le_right _ _
  rcases he with he | he
  · obtain ⟨bs, r2⟩ := Dp.reads I (.list ds) y u he ry
    exact SeqAt.notIn_list_reads r2 r1 se sd (by omega) ⟨.bl _, H, I, rfl, q⟩
  · obtain ⟨bs, r2⟩ := Dp.reads I (.tuple ds) y u he ry
    exact SeqAt.notIn_tuple_reads r2 r1 se sd (by omega) ⟨.bl _, H, I, rfl, q⟩
theorem getK {k : Ky} {kvs : List (Ky × D)} {gs : List (Key × V)} {a : Addr} (e : H a = some (.dK gs)) (r : RK Z H kvs gs) (k : Ky) : ∃ o, DGet H a (kV (kyS k)) o ∧ o.isSome = (dget kvs k).isSome := by
  refine ⟨_, DGet.k e, ?_⟩
  rcases r.val k with ⟨h1, h2⟩ | ⟨d, v, h1, h2, _⟩ <;> rw [h1, h2] <;> rfl
def inOp (neg : Bool) : CmpOp := if neg then .NotIn else .In
theorem in_ok (hK : Z.K = X.K) (hu : X.A.units + 620 < cLine) {neg : Bool} {x y : D} {v u : V} (sr : SR Z S H) (rx : RD Z H x v) (ry : RD Z H y u) (h : inW x y neg S Qa) (q : Kq Z H Qa Q) : rAny X (compareOp (inOp neg)) v u H Q := by
  have lst : ∀ {ds : List D} {a : Addr}, rd S a = some ds → ∀ r, inW.InL S x ds r → Qa (.bl (neg ^^ r)) S → rAny X (compareOp (inOp neg)) v (.ref a) H Q := fun {ds a} e r ⟨p, ps, p1, p2, hd, er⟩ h => by
    subst er
    cases neg with
    | false => exact ⟨_, op_inR hu, p, ps, p1.dp hK sr rx, .inl (PD.dp hK sr (.ref e p2) .ref), p1.lay, p2.lay, hd, q.pure sr .bl (by simpa using h)⟩
    | true => exact ⟨_, op_notInR hu, p, ps, p1.dp hK sr rx, .inl (PD.dp hK sr (.ref e p2) .ref), p1.lay, p2.lay, hd, q.pure sr .bl (by simpa using h)⟩
  have tup : ∀ {ds : List D}, RD Z H (.tup ds) u → ∀ r, inW.InL S x ds r → Qa (.bl (neg ^^ r)) S → rAny X (compareOp (inOp neg)) v u H Q := fun {ds} e r ⟨p, ps, p1, p2, hd, er⟩ h => by
    subst er
    cases neg with
    | false => exact ⟨_, op_inR hu, p, ps, p1.dp hK sr rx, .inr (PD.dp hK sr (.tup p2) e), p1.lay, p2.lay, hd, q.pure sr .bl (by simpa using h)⟩
    | true => exact ⟨_, op_notInR hu, p, ps, p1.dp hK sr rx, .inr (PD.dp hK sr (.tup p2) e), p1.lay, p2.lay, hd, q.pure sr .bl (by simpa using h)⟩
  have dct : ∀ {kvs : List (Ky × D)} {a : Addr} (k : Ky), S a = some (.dct kvs) → v = kV (kyS k) → Qa (.bl (neg ^^ (dget kvs k).isSome)) S → rAny X (compareOp (inOp neg)) v (.ref a) H Q := fun {kvs a} k e ev h => by
    obtain ⟨gs, hg, r⟩ := sr a _ e
    obtain ⟨o, g, eo⟩ := getK (k := k) hg r k
    subst ev
    rw [← eo] at h
    cases neg with
    | false => exact ⟨_, op_inDict (by omega), a, o, rfl, g, q.pure sr .bl (by simpa using h)⟩
    | true => exact ⟨_, op_notInDict (by omega), a, o, rfl, g, q.pure sr .bl (by simpa using h)⟩
  unfold inW at h
  split at h
  · rename_i c b
    cases rx; cases ry
    have e : (b.contains c) = decide (c ∈ (st b).cps.toList) := by rw [st_cps]; simp
    rw [e] at h
    cases neg with
    | false => exact ⟨_, op_in_sign, c, st b, rfl, rfl, q.pure sr .bl (by simpa using h)⟩
    | true => exact ⟨_, op_notIn_sign, c, st b, rfl, rfl, q.pure sr .bl (by simpa using h)⟩
  · rename_i a _
    cases ry
    split at h
    · rename_i kvs e
      split at h
      · cases rx; exact dct (.inl _) e rfl h
      · cases rx; exact dct (.inr _) e rfl h
      · exact h.elim
    · rename_i ds e
      obtain ⟨r, h1, h2⟩ := h
      exact lst (by unfold rd; rw [e]) r h1 h2
    · rename_i ds e
      obtain ⟨r, h1, h2⟩ := h
      exact lst (by unfold rd; rw [e]) r h1 h2
    · exact h.elim
  · obtain ⟨r, h1, h2⟩ := h
    exact tup ry r h1 h2
  · exact h.elim
/-! ### comparisons -/
def copOf : Cop → CmpOp
  | .eq => .Eq | .ne => .NotEq | .lt => .Lt | .le => .LtE | .gt => .Gt | .ge => .GtE | .is_ => .Is | .isnot => .IsNot | .in_ => .In | .notin => .NotIn
theorem cmp_ok (hK : Z.K = X.K) (hu : X.A.units + 620 < cLine) {op : Cop} {x y : D} {v u : V} (sr : SR Z S H) (rx : RD Z H x v) (ry : RD Z H y u) (h : cmpW op x y S Qa) (q : Kq Z H Qa Q) : rAny X (compareOp (copOf op)) v u H Q := by
  cases op with
  | eq => exact eq_ok hK hu sr rx ry h q
  | ne => exact ne_ok hK hu sr rx ry h q
  | lt =>
    simp only [cmpW] at h
    split at h
    · cases rx; cases ry; exact ⟨_, op_lt, _, _, rfl, rfl, q.pure sr .bl h⟩
    · exact h.elim
  | le =>
    simp only [cmpW] at h
    split at h
    · cases rx; cases ry; exact ⟨_, op_le, _, _, rfl, rfl, q.pure sr .bl h⟩
    · exact h.elim
  | gt =>
    simp only [cmpW] at h
    split at h
    · cases rx; cases ry; exact ⟨_, op_gt, _, _, rfl, rfl, q.pure sr .bl h⟩
    · exact h.elim
  | ge =>
    simp only [cmpW] at h
    split at h
    · cases rx; cases ry; exact ⟨_, op_ge, _, _, rfl, rfl, q.pure sr .bl h⟩
    · exact h.elim
  | is_ =>
    simp only [cmpW] at h
    split at h
    · cases rx; cases ry; exact ⟨_, op_isN, rfl, q.pure sr .bl (by simpa using h)⟩
    · rename_i hn
      cases ry
      refine ⟨_, op_isN, rfl, ?_⟩
      have e : decide (v = V.non) = false := decide_eq_false fun z => by subst z; cases rx; exact hn rfl
      rw [e]; exact q.pure sr .bl h
    · exact h.elim
  | isnot =>
    simp only [cmpW] at h
    split at h
    · cases rx; cases ry; exact ⟨_, op_notN, rfl, q.pure sr .bl (by simpa using h)⟩
    · rename_i hn
      cases ry
      refine ⟨_, op_notN, rfl, ?_⟩
      have e : decide (v = V.non) = false := decide_eq_false fun z => by subst z; cases rx; exact hn rfl
      rw [e]; exact q.pure sr .bl h
    · exact h.elim
  | in_ => exact in_ok (neg := false) hK hu sr rx ry h q
  | notin => exact in_ok (neg := true) hK hu sr rx ry h q
/-! ### arithmetic and the like -/
def bopOf : Bop → Operator
  | .add => .Add | .sub => .Sub | .mul => .Mult | .fdiv => .FloorDiv | .mod => .Mod | .pow => .Pow
theorem st_app (a b : List Nat) : st a ++ st b = st (a ++ b) := by
  show (Str.mk _ : Str) = Str.mk _
  simp [st]
theorem bin_ok (hK : Z.K = X.K) {op : Bop} {x y : D} {v u : V} (sr : SR Z S H) (rx : RD Z H x v) (ry : RD Z H y u) (h : binW op x y S Qa) (q : Kq Z H Qa Q) : rAny X (binaryOp (bopOf op)) v u H Q := by
  unfold binW at h
  split at h
  · cases rx; cases ry; exact ⟨_, op_add, _, _, rfl, rfl, q.pure sr .int h⟩
  · cases rx; cases ry
    exact ⟨_, op_add_str, _, _, rfl, rfl, by rw [st_length, st_length]; exact h.1, by rw [st_app]; exact q.pure sr .str h.2⟩
  · obtain ⟨hz, h⟩ := h
    cases rx with
    | tup t1 r1 => cases ry with
      | tup t2 r2 =>
        refine ⟨_, op_catA, _, _, _, _, rfl, rfl, by rw [← hK]; exact t1.sq, by rw [← hK]; exact t2.sq, by rw [← r1.length, ← r2.length]; exact hz, fun e => ?_, fun _ e => ?_, fun _ _ => ?_⟩
        · have e' := r1.nil_iff.mpr e
          subst e'
          exact q.pure sr (.tup t2 r2) (by simpa using h)
        · have e' := r2.nil_iff.mpr e
          subst e'
          exact q.pure sr (.tup t1 r1) (by simpa using h)
        · exact q.newT sr (r1.append r2) h
  · obtain ⟨xs, ys, e1, e2, hz, h⟩ := h
    cases rx; cases ry
    obtain ⟨vs, h1, r1⟩ := lstAt sr e1
    obtain ⟨us, h2, r2⟩ := lstAt sr e2
    exact ⟨_, op_cat, _, _, _, _, rfl, rfl, h1, h2, by rw [← r1.length, ← r2.length]; exact hz, q.newL sr (r1.append r2) h⟩
  · cases rx; cases ry; exact ⟨_, op_sub, _, _, rfl, rfl, q.pure sr .int h⟩
  · cases rx; cases ry; exact ⟨_, op_mul, _, _, rfl, rfl, h.1, q.pure sr .int h.2⟩
  · obtain ⟨xs, e1, k1, k2, hz, h⟩ := h
    cases rx; cases ry
    obtain ⟨vs, h1, r1⟩ := lstAt sr e1
    exact ⟨_, op_rep, _, _, _, rfl, rfl, h1, k1, k2, by rw [← r1.length]; exact hz, q.newL sr (r1.rep _) h⟩
  · obtain ⟨k0, k1, k2, hz, h⟩ := h
    cases ry
    cases rx with
    | tup t r => exact ⟨_, op_repT, _, _, _, rfl, rfl, by rw [← hK]; exact t.sq, fun e => k0 (r.nil_iff.mpr e), k1, k2, by rw [← r.length]; exact hz, q.newT sr (r.rep _) h⟩
  · cases rx; cases ry; exact ⟨_, ZM.op_mul_s1, _, _, rfl, rfl, h.1, h.2.1, q.pure sr .str h.2.2⟩
  · cases rx; cases ry; exact ⟨_, op_fdivN, _, _, rfl, rfl, ⟨h.1, h.2.1⟩, q.pure sr .int h.2.2⟩
  · cases rx; cases ry; exact ⟨_, op_modN, _, _, rfl, rfl, h.1, q.pure sr .int h.2⟩
  · cases rx; cases ry; exact ⟨_, op_pow, _, _, rfl, rfl, ⟨h.1, h.2.1, h.2.2.1⟩, q.pure sr .int h.2.2.2⟩
  · exact h.elim
theorem aug_ok (hK : Z.K = X.K) {op : Bop} {x y : D} {v u : V} (sr : SR Z S H) (rx : RD Z H x v) (ry : RD Z H y u) (h : augW op x y S Qa) (q : Kq Z H Qa Q) : rAny X (inplaceOp (bopOf op)) v u H Q := by
  unfold augW at h
  split at h
  · cases rx; cases ry; exact ⟨_, iop_add, _, _, rfl, rfl, q.pure sr .int h⟩
  · cases rx; cases ry
    exact ⟨_, iop_add_str, _, _, rfl, rfl, by rw [st_length, st_length]; exact h.1, by rw [st_app]; exact q.pure sr .str h.2⟩
  · cases rx; cases ry; exact ⟨_, iop_sub, _, _, rfl, rfl, q.pure sr .int h⟩
  · obtain ⟨hz, h⟩ := h
    cases rx with
    | tup t1 r1 => cases ry with
      | tup t2 r2 =>
        refine ⟨_, ZM.iop_catA, _, _, _, _, rfl, rfl, by rw [← hK]; exact t1.sq, by rw [← hK]; exact t2.sq, by rw [← r1.length, ← r2.length]; exact hz, fun e => ?_, fun _ e => ?_, fun _ _ => ?_⟩
        · have e' := r1.nil_iff.mpr e
          subst e'
          exact q.pure sr (.tup t2 r2) (by simpa using h)
        · have e' := r2.nil_iff.mpr e
          subst e'
          exact q.pure sr (.tup t1 r1) (by simpa using h)
        · exact q.newT sr (r1.append r2) h
  · exact h.elim
/-! ### subscripts -/
theorem ixN_lt {n : Nat} {i : Int} {j : Nat} (h : ixN n i = some j) : j < n := (ixN_seq h).2.1
theorem atI_RDs {ds : List D} {vs : List V} {i : Int} {d : D} (r : RDs Z H ds vs) (h : atI ds i = some d) : ∃ v, atI vs i = some v ∧ RD Z H d v := by
  unfold atI at h ⊢
  rw [← r.length]
  cases e : ixN ds.length i with
  | none => rw [e] at h; cases h
  | some j =>
    rw [e] at h
    exact r.get h
theorem ix_dict (hu : X.A.units + 1 < cLine) : IxR X (fun x y H Q => ∃ a v, x = .ref a ∧ DGet H a y (some v) ∧ Q v H) := by
  intro value slice pins s σ H x y v u Q I rx ry h hs
  obtain ⟨a, w', rfl, g, q⟩ := h
  cases rx
  exact tail_any (dict_typeIs I g) PySem.F.slot_dict_getitem.lookup (d_getItem hu I g ry fun w2 s' I' rw' => ⟨w', H, I', rw', q⟩) hs
theorem ix_ok (hK : Z.K = X.K) (hu : X.A.units + 620 < cLine) {x y : D} {v u : V} (sr : SR Z S H) (rx : RD Z H x v) (ry : RD Z H y u) (h : ixW x y S Qa) (q : Kq Z H Qa Q) : ixAny X v u H Q := by
  unfold ixW at h
  split at h
  · cases ry
    cases rx with
    | tup t r =>
      obtain ⟨d, e, h⟩ := h
      obtain ⟨w', e2, r2⟩ := atI_RDs r e
      exact ⟨_, ix_tup, _, _, _, _, rfl, rfl, by rw [← hK]; exact t.sq, e2, q.pure sr r2 h⟩
  · cases rx; cases ry
    obtain ⟨hz, c, e, h⟩ := h
    exact ⟨_, ix_str, _, _, c, rfl, rfl, by rw [st_length]; exact hz, by rw [st_cps]; exact e, q.pure sr (.str (l := [c])) h⟩
  · cases rx
    split at h
    · rename_i ds i e
      cases ry
      obtain ⟨d, e2, h⟩ := h
      obtain ⟨vs, sq, r⟩ := rdAt (K := X.K) sr (show rd S _ = some ds by unfold rd; rw [e])
      obtain ⟨w', e3, r2⟩ := atI_RDs r e2
      exact ⟨_, ix_list, _, _, _, _, rfl, rfl, sq, e3, q.pure sr r2 h⟩
    · rename_i ds i e
      cases ry
      obtain ⟨d, e2, h⟩ := h
      obtain ⟨vs, sq, r⟩ := rdAt (K := X.K) sr (show rd S _ = some ds by unfold rd; rw [e])
      obtain ⟨w', e3, r2⟩ := atI_RDs r e2
      exact ⟨_, ix_list, _, _, _, _, rfl, rfl, sq, e3, q.pure sr r2 h⟩
    · rename_i kvs i e
      cases ry
      obtain ⟨d, e2, h⟩ := h
      obtain ⟨gs, hg, r⟩ := sr _ _ e
      rcases r.val (.inl i) with ⟨h1, _⟩ | ⟨d', v', h1, h2, r2⟩
      · rw [h1] at e2; cases e2
      · rw [h1] at e2; cases e2
        exact ⟨_, ix_dict (by omega), _, v', rfl, by rw [← h2]; exact DGet.k (k := kyS (.inl _)) hg, q.pure sr r2 h⟩
    · rename_i kvs l e
      cases ry
      obtain ⟨d, e2, h⟩ := h
      obtain ⟨gs, hg, r⟩ := sr _ _ e
      rcases r.val (.inr l) with ⟨h1, _⟩ | ⟨d', v', h1, h2, r2⟩
      · rw [h1] at e2; cases e2
      · rw [h1] at e2; cases e2
        exact ⟨_, ix_dict (by omega), _, v', rfl, by rw [← h2]; exact DGet.k (k := kyS (.inr _)) hg, q.pure sr r2 h⟩
    · exact h.elim
  · exact h.elim
end
end Mini
end L2
namespace L2
namespace Mini
open PySem PySem.Spec PyProof.Rows
section
variable {X : Cx} {Z : Nm} {S : Sto} {H : Hp} {Qa : QD} {Q : VK}
theorem cut_RDs {ds : List D} {vs : List V} (r : RDs Z H ds vs) (lo hi : Option Int) : RDs Z H (cutD ds lo hi) (cutV vs lo hi) := by
  unfold cutD cutV
  rw [r.length]
  exact (r.drop _).take _
theorem cut_whole {α : Type} (ds : List α) (lo hi : Option Int) (h : HT.sIx ds.length 0 lo = 0 ∧ HT.sIx ds.length ds.length hi = ds.length) : cutD ds lo hi = ds := by
  unfold cutD; rw [h.1, h.2]; simp
theorem cutS_st (l : List Nat) (lo hi : Option Int) : cutS (st l) lo hi = st (cutD l lo hi) := by
  unfold cutS cutD st
  simp [Str.length]
theorem sl_ok (hK : Z.K = X.K) {x : D} {v : V} {lo hi : Option Int} (sr : SR Z S H) (rx : RD Z H x v) (h : slW x lo hi S Qa) (q : Kq Z H Qa Q) : slAny X v lo hi H Q := by
  unfold slW at h
  split at h
  · cases rx with
    | tup t r =>
      refine ⟨_, sl_tupA, _, _, rfl, by rw [← hK]; exact t.sq, fun e => ?_, fun _ => q.newT sr (cut_RDs r lo hi) h⟩
      rw [← r.length] at e
      rw [cut_whole _ _ _ e] at h
      exact q.pure sr (.tup t r) h
  · cases rx
    exact ⟨_, sl_str, _, rfl, by rw [st_length]; exact h.1, by rw [cutS_st]; exact q.pure sr .str h.2⟩
  · obtain ⟨ds, e, h⟩ := h
    cases rx
    obtain ⟨vs, sq, r⟩ := rdAt (K := X.K) sr e
    exact ⟨_, sl_list, _, _, rfl, sq, q.newL sr (cut_RDs r lo hi) h⟩
  · exact h.elim
/-! ### built-in functions -/
def biF : Bi → Value
  | .len => .builtin "len" | .int => .type "int" | .max => .builtin "max" | .min => .builtin "min" | .sum => .builtin "sum" | .all => .builtin "all" | .any => .builtin "any" | .tuple => .type "tuple" | .list => .type "list"
  | .sortset => .none | .repr => .builtin "repr" | .str => .type "str" | .abs => .builtin "abs" | .dict0 => .none | .sorted => .builtin "sorted" | .dict => .type "dict"
theorem RDs.ints : ∀ {ds : List D} {vs : List V} {ns : List Int}, RDs Z H ds vs → intsOf ds = some ns → vs = ns.map V.int
  | [], _, _, .nil, e => by cases e; rfl
  | .int i :: ds, _, ns, .cons r t, e => by
    cases r
    unfold intsOf at e
    cases q : intsOf ds with
    | none => rw [q] at e; cases e
    | some ms => rw [q] at e; cases e; rw [RDs.ints t q]; rfl
  | .non :: _, _, _, _, e => by cases e
  | .bl _ :: _, _, _, _, e => by cases e
  | .str _ :: _, _, _, _, e => by cases e
  | .tup _ :: _, _, _, _, e => by cases e
  | .ref _ :: _, _, _, _, e => by cases e
  | .fn _ :: _, _, _, _, e => by cases e
theorem RDs.bls : ∀ {ds : List D} {vs : List V} {ns : List Bool}, RDs Z H ds vs → blsOf ds = some ns → vs = ns.map V.bl
  | [], _, _, .nil, e => by cases e; rfl
  | .bl i :: ds, _, ns, .cons r t, e => by
    cases r
    unfold blsOf at e
    cases q : blsOf ds with
    | none => rw [q] at e; cases e
    | some ms => rw [q] at e; cases e; rw [RDs.bls t q]; rfl
  | .non :: _, _, _, _, e => by cases e
  | .int _ :: _, _, _, _, e => by cases e
  | .str _ :: _, _, _, _, e => by cases e
  | .tup _ :: _, _, _, _, e => by cases e
  | .ref _ :: _, _, _, _, e => by cases e
  | .fn _ :: _, _, _, _, e => by cases e
theorem call_lenK : CallR X (.builtin "len") (fun xs H Q => ∃ a kvs, xs = [.ref a] ∧ H a = some (.dK kvs) ∧ Q (.int kvs.length) H) := by
  intro pins s σ H xs us Q I r h
  obtain ⟨a, kvs, rfl, e, q⟩ := h
  obtain ⟨u, rfl, rx⟩ := vals1 r
  cases rx
  exact d_len I (.inl e) fun t s' I' => ⟨.int _, H, I', ⟨_, rfl⟩, q⟩
theorem st_istr (i : Int) : st (istr i) = ((toString i : String) : Str) := st_of _
theorem RK.keysI : ∀ {kvs : List (Ky × D)} {gs : List (Key × V)} {ns : List Int}, RK Z H kvs gs → kvs.map (·.1) = ns.map Sum.inl → gs.map (·.1) = ns.map Sum.inl
  | _, _, [], .nil, _ => rfl
  | _, _, n :: ns, .cons r t, e => by
    simp only [List.map_cons, List.cons.injEq] at e ⊢
    obtain ⟨rfl, e⟩ := e
    exact ⟨rfl, RK.keysI t e⟩
  | _, _, [], .cons _ _, e => by cases e
  | _, _, _ :: _, .nil, e => by cases e
theorem RK.keysS : ∀ {kvs : List (Ky × D)} {gs : List (Key × V)} {ns : List (List Nat)}, RK Z H kvs gs → kvs.map (·.1) = ns.map Sum.inr → gs.map (·.1) = (ns.map st).map Sum.inr
  | _, _, [], .nil, _ => rfl
  | _, _, n :: ns, .cons r t, e => by
    simp only [List.map_cons, List.cons.injEq] at e ⊢
    obtain ⟨rfl, e⟩ := e
    exact ⟨rfl, RK.keysS t e⟩
  | _, _, [], .cons _ _, e => by cases e
  | _, _, _ :: _, .nil, e => by cases e
theorem RDs.ofInts : ∀ ys : List Int, RDs Z H (ys.map .int) (ys.map V.int)
  | [] => .nil
  | _ :: ys => .cons .int (RDs.ofInts ys)
theorem RDs.ofStrs : ∀ ys : List (List Nat), RDs Z H (ys.map .str) ((ys.map st).map V.str)
  | [] => .nil
  | _ :: ys => .cons .str (RDs.ofStrs ys)
theorem RDs.strs : ∀ {ls : List (List Nat)} {vs : List V}, RDs Z H (ls.map D.str) vs → vs = (ls.map st).map V.str
  | [], _, .nil => rfl
  | l :: ls, _, .cons r t => by cases r; rw [RDs.strs t]; rfl
/-- an arrangement of texts -/
theorem perm_st {ls : List (List Nat)} {ys : List Str} (h : ys.Perm (ls.map st)) : ∃ zs : List (List Nat), zs.Perm ls ∧ ys = zs.map st := by
  refine ⟨ys.map fun y => y.cps.toList, ?_, ?_⟩
  · have := h.map fun y : Str => y.cps.toList
    rw [List.map_map] at this
    have e : ((fun y : Str => y.cps.toList) ∘ st) = id := funext fun l => st_cps l
    rw [e, List.map_id] at this
    exact this
  · rw [List.map_map]
    have e : (st ∘ fun y : Str => y.cps.toList) = id := funext fun y => st_of y
    rw [e, List.map_id]
theorem Kq.newK {kvs : List (Ky × D)} {gs : List (Key × V)} (q : Kq Z H Qa Q) (sr : SR Z S H) (r : RK Z H kvs gs) (h : newW (.dct kvs) S Qa) : ∀ p, H p = none → Q (.ref p) (upd H p (.dK gs)) := fun p n =>
  q (.ref p) (.ref p) (S.upd p (.dct kvs)) _ (TK.new n) (sr.put (c := .dct kvs) (TK.new n) ⟨gs, upd_same, r.keep (TK.new n)⟩) .ref (h p (sr.free n))
theorem bi_ok (hK : Z.K = X.K) (hc : X.calm = true) {b : Bi} {xs : List D} {vs : List V} (sr : SR Z S H) (rx : RDs Z H xs vs) (h : biW b xs S Qa) (q : Kq Z H Qa Q) : cAny X (biF b) vs H Q := by
  unfold biW at h
  split at h
  · obtain ⟨v, rfl, r⟩ := rx.one
    cases r
    exact ⟨_, call_len_str, _, rfl, by rw [st_length]; exact h.1, by rw [st_length]; exact q.pure sr .int h.2⟩
  · obtain ⟨v, rfl, r⟩ := rx.one
    cases r with
    | tup t rs => exact ⟨_, call_len_seq, _, _, rfl, .inr (by rw [← hK]; exact t.sq), by rw [← rs.length]; exact q.pure sr .int h⟩
  · obtain ⟨v, rfl, r⟩ := rx.one
    cases r
    split at h
    · rename_i ds e
      obtain ⟨vs, sq, rs⟩ := rdAt (K := X.K) sr (show rd S _ = some ds by unfold rd; rw [e])
      exact ⟨_, call_len_seq, _, _, rfl, .inl sq, by rw [← rs.length]; exact q.pure sr .int h⟩
    · rename_i ds e
      obtain ⟨vs, sq, rs⟩ := rdAt (K := X.K) sr (show rd S _ = some ds by unfold rd; rw [e])
      exact ⟨_, call_len_seq, _, _, rfl, .inl sq, by rw [← rs.length]; exact q.pure sr .int h⟩
    · rename_i kvs e
      obtain ⟨gs, hg, r⟩ := sr _ _ e
      exact ⟨_, call_lenK, _, _, rfl, hg, by rw [← r.length]; exact q.pure sr .int h⟩
    · exact h.elim
  · obtain ⟨v, rfl, r⟩ := rx.one
    cases r
    exact ⟨_, call_int1, .inl ⟨_, rfl, q.pure sr .int h⟩⟩
  · obtain ⟨v, rfl, r⟩ := rx.one
    cases r
    exact ⟨_, call_int1, .inr ⟨_, rfl, q.pure sr .int h⟩⟩
  · obtain ⟨v, rfl, r⟩ := rx.one
    cases r
    obtain ⟨n, e, hl, h⟩ := h
    exact ⟨_, call_int_str, _, n, rfl, e, by rw [st_length]; exact hl, q.pure sr .int h⟩
  · obtain ⟨v, u, rfl, r, r2⟩ := rx.two
    cases r; cases r2
    exact ⟨_, call_max2 hc, _, _, rfl, q.pure sr .int h⟩
  · obtain ⟨v, u, rfl, r, r2⟩ := rx.two
    cases r; cases r2
    exact ⟨_, call_min2 hc, _, _, rfl, q.pure sr .int h⟩
  · obtain ⟨v, rfl, r⟩ := rx.one
    cases r
    obtain ⟨ds, ns, e, ei, hn, h⟩ := h
    obtain ⟨vs, sq, rs⟩ := rdAt (K := X.K) sr e
    rw [rs.ints ei] at sq
    exact ⟨_, cr_max hc, _, _, rfl, sq, hn, fun m h1 h2 => q.pure sr .int (h m h1 h2)⟩
  · obtain ⟨v, rfl, r⟩ := rx.one
    cases r
    obtain ⟨ds, ns, e, ei, hn, h⟩ := h
    obtain ⟨vs, sq, rs⟩ := rdAt (K := X.K) sr e
    rw [rs.ints ei] at sq
    exact ⟨_, cr_min hc, _, _, rfl, sq, hn, fun m h1 h2 => q.pure sr .int (h m h1 h2)⟩
  · obtain ⟨v, rfl, r⟩ := rx.one
    cases r
    obtain ⟨ds, ns, e, ei, h⟩ := h
    obtain ⟨vs, sq, rs⟩ := rdAt (K := X.K) sr e
    rw [rs.ints ei] at sq
    exact ⟨_, cr_sum hc, _, _, rfl, sq, q.pure sr .int h⟩
  · obtain ⟨v, rfl, r⟩ := rx.one
    cases r
    obtain ⟨ds, ns, e, ei, h⟩ := h
    obtain ⟨vs, sq, rs⟩ := rdAt (K := X.K) sr e
    rw [rs.bls ei] at sq
    exact ⟨_, cr_all hc, _, _, rfl, sq, q.pure sr .bl h⟩
  · obtain ⟨v, rfl, r⟩ := rx.one
    cases r
    obtain ⟨ds, ns, e, ei, h⟩ := h
    obtain ⟨vs, sq, rs⟩ := rdAt (K := X.K) sr e
    rw [rs.bls ei] at sq
    exact ⟨_, cr_any hc, _, _, rfl, sq, q.pure sr .bl h⟩
  · obtain ⟨v, rfl, r⟩ := rx.one
    cases r
    obtain ⟨ds, e, h⟩ := h
    obtain ⟨vs, sq, rs⟩ := rdAt (K := X.K) sr e
    exact ⟨_, call_tuple_of, _, _, rfl, .inl ⟨sq, q.newT sr rs h⟩⟩
  · obtain ⟨v, rfl, r⟩ := rx.one
    cases r with
    | tup t rs => exact ⟨_, call_tuple_of, _, _, rfl, .inr ⟨by rw [← hK]; exact t.sq, q.pure sr (.tup t rs) h⟩⟩
  · obtain ⟨v, rfl, r⟩ := rx.one
    cases r
    obtain ⟨ds, e, h⟩ := h
    obtain ⟨vs, sq, rs⟩ := rdAt (K := X.K) sr e
    exact ⟨_, call_list_of, _, _, rfl, .inl sq, q.newL sr rs h⟩
  · obtain ⟨v, rfl, r⟩ := rx.one
    cases r with
    | tup t rs => exact ⟨_, call_list_of, _, _, rfl, .inr (by rw [← hK]; exact t.sq), q.newL sr rs h⟩
  · obtain ⟨v, rfl, r⟩ := rx.one
    cases r
    exact ⟨_, call_abs, _, rfl, q.pure sr .int h⟩
  · obtain ⟨v, rfl, r⟩ := rx.one
    cases r
    exact ⟨_, call_str_int, _, rfl, h.1, by rw [← st_istr]; exact q.pure sr .str h.2⟩
  · obtain ⟨v, rfl, r⟩ := rx.one
    cases r
    exact ⟨_, SkE.call_str_str, _, rfl, q.pure sr .str h⟩
  · obtain ⟨v, rfl, r⟩ := rx.one
    cases r
    exact ⟨_, SkE.call_repr_int, _, rfl, h.1, by rw [← st_istr]; exact q.pure sr .str h.2⟩
  · obtain ⟨v, rfl, r⟩ := rx.one
    cases r
    exact ⟨_, ZM.call_repr_bl, _, rfl, by rename_i b; cases b <;> exact q.pure sr .str h⟩
  · obtain ⟨v, rfl, r⟩ := rx.one
    cases r
    split at h
    · rename_i kvs e
      obtain ⟨gs, hg, rk⟩ := sr _ _ e
      rcases h with ⟨ns, hk, hl, h⟩ | ⟨ls, hk, hl, h⟩
      · exact ⟨_, call_sortedDI hc, _, gs, ns, rfl, Rd.of hg, rk.keysI hk, hl, fun ys p h1 h2 hp => q.newL sr (RDs.ofInts ys) (h ys h1 h2) p hp⟩
      · refine ⟨_, call_sortedD hc, _, gs, ls.map st, rfl, Rd.of hg, rk.keysS hk, by rw [List.length_map]; exact hl, fun ys p h1 h2 hp => ?_⟩
        obtain ⟨zs, hz, rfl⟩ := perm_st h1
        exact q.newL sr (RDs.ofStrs zs) (h zs hz h2) p hp
    · rename_i ds e
      obtain ⟨vs, sq, rs⟩ := rdAt (K := X.K) sr (show rd S _ = some ds by unfold rd; rw [e])
      rcases h with ⟨ns, hk, h⟩ | ⟨ls, hk, hl, h⟩
      · rw [rs.ints hk] at sq
        exact ⟨_, cr_sortedI, _, ns, rfl, sq, fun ys p h1 h2 hp => q.newL sr (RDs.ofInts ys) (h ys h1 h2) p hp⟩
      · subst hk
        rw [rs.strs] at sq
        refine ⟨_, cr_sortedS, _, ls.map st, rfl, sq, by rw [List.length_map]; exact hl, fun ys p h1 h2 hp => ?_⟩
        obtain ⟨zs, hz, rfl⟩ := perm_st h1
        exact q.newL sr (RDs.ofStrs zs) (h zs hz h2) p hp
    · exact h.elim
  · obtain ⟨v, rfl, r⟩ := rx.one
    cases r
    split at h
    · rename_i kvs e
      obtain ⟨gs, hg, rk⟩ := sr _ _ e
      exact ⟨_, call_dictD, _, gs, rfl, Rd.of hg, fun p hp => q.newK sr rk h p hp⟩
    · exact h.elim
  · exact h.elim
/-! ### methods of lists -/
def bmId : Bm → String
  | .append => "list.append" | .pop => "list.pop" | .extend => "list.extend" | .count => "str.count" | .index => "list.index" | .split => "str.split" | .join => "str.join" | .startswith => "str.startswith"
theorem Kq.setL {a : Addr} {ds : List D} {vs us : List V} {d : D} {v : V} (q : Kq Z H Qa Q) (sr : SR Z S H) (e : H a = some (.lst us)) (r : RDs Z H ds vs) (rd : RD Z H d v) (h : Qa d (S.upd a (.lst ds))) : Q v (upd H a (.lst vs)) :=
  have k : TK H (upd H a (.lst vs)) := TK.mut e trivial
  q d v _ _ k (sr.put (c := .lst ds) k ⟨vs, upd_same, r.keep k⟩) (rd.keep k) h
set_option maxRecDepth 8000 in
/-- a list extended by any tuple -/
theorem ext_tup (l b : Addr) (xs ys : Array Value) (n : Nat) (hs : xs.size + ys.size ≤ sizeLine) :
    Meets (Builtin.«list.extend» ⟨[.ref l, .ref b], []⟩) fun _ R s =>
      (∃ ol : Obj, ol = { cls := .type "list", dict := none, data := .seq xs n, slots := #[] } ∧ s.heap.get? l = some ol) ∧ IsTup s.heap b ys ∧
      R (.ok (.ret Value.none)) { s with heap := s.heap.update l (Obj.mapSeq (· ++ ys)), toks := s.toks } := by
  refine .of_wp fun prog w A R s h => ?_
  obtain ⟨hp, g, d, tk, os⟩ := s
  obtain ⟨⟨_, rfl, hl⟩, ⟨⟨cl, di, da, sl⟩, hb, hc, m, hd⟩, h⟩ := h
  dsimp only at hc hd
  subst hc hd
  have f1 := AutoSeq1.idx_int
  have f2 := PyProof.Rows.sub_tuple_tuple
  have f3 := PyProof.Rows.sub_list_list
  have f4 := PyProof.Rows.sub_tuple_list
  have f5 := PyProof.Rows.sub_list_tuple
  have hs1 : xs.size ≤ sizeLine := by omega
  have hs2 : (xs ++ ys).size ≤ sizeLine + 1 := by rw [Array.size_append]; omega
  have hs0 : ¬(!xs.isEmpty && Builtin.List.listTooLong (xs.size + ys.size)) = true := by
    rw [notLongL hs, Bool.and_false]
    exact Bool.false_ne_true
  wp_walk using (wpAny_updateSeq hl rfl (hz := hs1) (_hz' := hs2)), AutoSeq1.wpAny_loadPart' hl, AutoSeq1.wpAny_loadPart' hb
  exact ⟨_, rfl, h⟩
def rExtendT (K : PySem.W.Frag) : V → List V → Hp → VK → Prop := fun x vs H Q => ∃ l b xs zs, x = .ref l ∧ vs = [.ref b] ∧ H l = some (.lst xs) ∧ SqT K H b zs ∧ xs.length + zs.length ≤ sizeLine ∧ Q .non (upd H l (.lst (xs ++ zs)))
theorem mt_extendT : MtR X "list.extend" (rExtendT X.K) := by
  intro pins s σ H x vs v us Q I rx rv h
  obtain ⟨l, b, xs, zs, rfl, rfl, hH, hB, hz, q⟩ := h
  cases rx
  obtain ⟨u, rfl, ru⟩ := rv.one
  cases ru
  obtain ⟨z, its, n, r, hl, e⟩ := I.lstM hH
  obtain ⟨its2, r2, t2, z2⟩ := I.tuple hB
  have l1 := r.length
  have l2 := r2.length
  refine call_meets PySem.F.slot_list_extend ⟨_, e, rfl⟩ PySem.F.entry_list_extend (PySem.F.args_list_extend_2 _ _) (ext_tup l b its.toArray its2.toArray n (by rw [List.size_toArray, List.size_toArray]; omega)) ⟨⟨_, rfl, e⟩, t2, ?_⟩
  refine ⟨.non, _, I.lset (its' := its ++ its2) hH e (by simp) (r.append r2) ?_, rfl, q⟩
  rw [List.length_append]
  omega
theorem bm_ok (hK : Z.K = X.K) (hu : X.A.units + 620 < cLine) (hc : X.calm = true) {m : Bm} {o : D} {x : V} {xs : List D} {vs : List V} (sr : SR Z S H) (ro : RD Z H o x) (rx : RDs Z H xs vs) (h : bmW m o xs S Qa) (q : Kq Z H Qa Q) :
    ∃ r, MtR X (bmId m) r ∧ r x vs H Q := by
  unfold bmW at h
  split at h
  · cases ro
    split at h
    · rename_i ds e
      obtain ⟨us, hl, rs⟩ := lstAt sr e
      split at h
      · obtain ⟨v, rfl, r⟩ := rx.one
        exact ⟨_, mt_append, _, _, _, rfl, rfl, hl, by rw [← rs.length]; exact h.1, q.setL sr hl (rs.append (.cons r .nil)) .non h.2⟩
      · cases rx
        obtain ⟨d, e2, h⟩ := h
        obtain ⟨y, hy, ry⟩ := rs.get e2
        exact ⟨_, mt_pop, _, _, _, rfl, rfl, hl, by rw [← rs.length]; exact hy, q.setL sr hl rs.dropLast ry h⟩
      · obtain ⟨v, rfl, r⟩ := rx.one
        cases r
        obtain ⟨hi, j, d, ej, e2, h⟩ := h
        obtain ⟨y, hy, ry⟩ := rs.get e2
        obtain ⟨p1, p2, p3, p4⟩ := ixN_seq ej
        exact ⟨_, mt_popAt, _, _, _, _, _, rfl, rfl, hl, hi.1, hi.2, by rw [← rs.length]; exact p1, hy, q.setL sr hl (rs.eraseIdx j) ry h⟩
      · obtain ⟨v, rfl, r⟩ := rx.one
        cases r
        obtain ⟨es, e2, hz, h⟩ := h
        obtain ⟨ws, hl2, rs2⟩ := lstAt sr e2
        exact ⟨_, mt_extend, _, _, _, _, rfl, rfl, hl, hl2, by rw [← rs.length, ← rs2.length]; exact hz, q.setL sr hl (rs.append rs2) .non h⟩
      · obtain ⟨v, rfl, r⟩ := rx.one
        cases r with
        | tup t rs2 => exact ⟨_, mt_extendT, _, _, _, _, rfl, rfl, hl, by rw [← hK]; exact t.sq, by rw [← rs.length, ← rs2.length]; exact h.1, q.setL sr hl (rs.append rs2) .non h.2⟩
      · obtain ⟨v, rfl, r⟩ := rx.one
        obtain ⟨p, ps, j, z, p1, p2, d1, d2, ej, ez, hno, h⟩ := h
        have er := show rd S _ = some ds by unfold rd; rw [e]
        refine ⟨_, mt_indexD (by omega), _, _, p, ps, j, z, rfl, rfl, PD.dp hK sr (.ref er p2) .ref, p1.dp hK sr r, ?_, ?_, ej, ez, hno, q.pure sr .int h⟩
        · have := (PD.ref (a := _) er p2).lay
          simp only [SeqAt.shaped, this, Bool.true_and, decide_eq_true_eq]
          show PyData.depthAll ps + 1 ≤ 64
          omega
        · simp only [SeqAt.shaped, p1.lay, Bool.true_and, decide_eq_true_eq]
          omega
      · exact h.elim
    · exact h.elim
  · cases ro
    split at h
    · obtain ⟨v, rfl, r⟩ := rx.one
      cases r
      exact ⟨_, mt_count, _, _, rfl, rfl, q.pure sr .int h⟩
    · obtain ⟨v, rfl, r⟩ := rx.one
      cases r
      obtain ⟨h1, h2, h⟩ := h
      rename_i lx _ _ bx
      refine ⟨_, mt_split, _, _, rfl, rfl, h1, by rw [st_length]; exact h2, ?_⟩
      have := RDs.ofStrs (Z := Z) (H := H) ((Txt.split (st lx) (st bx)).map fun y => y.cps.toList)
      rw [show ((Txt.split (st lx) (st bx)).map fun y : Str => y.cps.toList).map st = Txt.split (st lx) (st bx) by rw [List.map_map, show (st ∘ fun y : Str => y.cps.toList) = id from funext fun y => st_of y, List.map_id], List.map_map] at this
      exact q.newL sr this h
    · obtain ⟨v, rfl, r⟩ := rx.one
      cases r
      obtain ⟨ls, e, hz, h⟩ := h
      rename_i lx _ _ _
      obtain ⟨us, sq, rs⟩ := rdAt (K := X.K) sr e
      rw [rs.strs] at sq
      refine ⟨_, mt_join, _, _, ls.map st, rfl, rfl, .inl sq, ?_, ?_⟩
      · rw [List.map_map, List.length_map, st_length, show (Str.length ∘ st) = List.length from funext fun y => st_length y]
        exact hz
      · have := RD.str (Z := Z) (H := H) (l := (Txt.join (st lx) (ls.map st)).cps.toList)
        rw [st_of] at this
        exact q.pure sr this h
    · obtain ⟨v, rfl, r⟩ := rx.one
      cases r
      exact ⟨_, mt_startswith, _, _, rfl, rfl, q.pure sr .bl h⟩
    · exact h.elim
  · exact h.elim
def bmT : Bm → String
  | .count => "str"
  | .split => "str"
  | .join => "str"
  | .startswith => "str"
  | _ => "list"
theorem bmTy_ok {m : Bm} {o : D} {x : V} (sr : SR Z S H) (ro : RD Z H o x) (h : bmTy m o S) : tyV X.K (bmT m) x H := by
  unfold bmTy at h
  split at h
  · cases ro; rfl
  · cases ro; rfl
  · cases ro; rfl
  · cases ro; rfl
  · cases ro; obtain ⟨ds, e⟩ := h; obtain ⟨us, hl, rs⟩ := lstAt sr e; exact Or.inl ⟨rfl, _, SqL.of hl⟩
  · cases ro; obtain ⟨ds, e⟩ := h; obtain ⟨us, hl, rs⟩ := lstAt sr e; exact Or.inl ⟨rfl, _, SqL.of hl⟩
  · cases ro; obtain ⟨ds, e⟩ := h; obtain ⟨us, hl, rs⟩ := lstAt sr e; exact Or.inl ⟨rfl, _, SqL.of hl⟩
  · cases ro; obtain ⟨ds, e⟩ := h; obtain ⟨us, hl, rs⟩ := lstAt sr e; exact Or.inl ⟨rfl, _, SqL.of hl⟩
  · exact h.elim
end
end Mini
end L2
/-! Mini, part F: expressions -/
namespace L2
namespace Mini
open PySem PySem.Spec PyProof.Rows
/-- a word's readings as a test, as arguments -/
def TTx (Z : Nm) (W : WX) (w : Env → Sto → (Bool → Sto → Prop) → QX → Prop) : TT := fun τ H Q => ∃ σ S Qa E, ER Z H σ τ ∧ SR Z S H ∧ w σ S Qa E ∧ (∀ r S' H', TK H H' → SR Z S' H' → Qa r S' → Q r H') ∧ Kx Z W τ H E
def TAx (Z : Nm) (W : WX) (w : Env → Sto → (List D → Sto → Prop) → QX → Prop) : TA := fun τ H Q => ∃ σ S Qa E, ER Z H σ τ ∧ SR Z S H ∧ w σ S Qa E ∧ (∀ ds vs S' H', TK H H' → SR Z S' H' → RDs Z H' ds vs → Qa ds S' → Q vs H') ∧ Kx Z W τ H E
def TOx (Z : Nm) (W : WX) (w : Env → Sto → (Option Int → Sto → Prop) → QX → Prop) : TO := fun τ H Q => ∃ σ S Qa E, ER Z H σ τ ∧ SR Z S H ∧ w σ S Qa E ∧ (∀ r S' H', TK H H' → SR Z S' H' → Qa r S' → Q r H') ∧ Kx Z W τ H E
def SEt (X : Cx) (Z : Nm) (W : WX) (e : Expr) (w : Env → Sto → (Bool → Sto → Prop) → QX → Prop) : Prop := PT X e (TTx Z W w)
def SAs (X : Cx) (Z : Nm) (W : WX) (es : List Expr) (w : Env → Sto → (List D → Sto → Prop) → QX → Prop) : Prop := PA X es (TAx Z W w)
def SO (X : Cx) (Z : Nm) (W : WX) (e : Option Expr) (w : Env → Sto → (Option Int → Sto → Prop) → QX → Prop) : Prop := PO X e (TOx Z W w)
/-- the word of a test -/
def toT (w : WE0) : Env → Sto → (Bool → Sto → Prop) → QX → Prop := fun σ S Q E => w σ S (fun x S1 => match tru S1 x with | some r => Q r S1 | none => False) E
theorem PT.imp {X : Cx} {e : Expr} {t t' : TT} (h : PT X e t) (i : ∀ τ H Q, t' τ H Q → t τ H Q) : PT X e t' := ⟨fun pins s σ H Q I w => h.run pins s σ H Q I (i _ _ _ w)⟩
theorem PA.imp {X : Cx} {e : List Expr} {t t' : TA} (h : PA X e t) (i : ∀ τ H Q, t' τ H Q → t τ H Q) : PA X e t' := ⟨fun pos pins s σ H Q I w => h.run pos pins s σ H Q I (i _ _ _ w)⟩
section
variable {X : Cx} {Z : Nm} {W : WX} {a₀ b₀ c₀ : Expr} {wa wb wc : WE0} {pos : Pos}
theorem tru_tv {K : PySem.W.Frag} {S : Sto} {H : Hp} {x : D} {v : V} {r : Bool} (hK : Z.K = K) (sr : SR Z S H) (rx : RD Z H x v) (h : tru S x = some r) : TruV K v H r := by
  cases x with
  | non => cases rx; cases h; rfl
  | bl b => cases rx; cases h; rfl
  | int i => cases rx; cases h; rfl
  | str l => cases h
  | tup ds =>
    cases rx with
    | tup t rs =>
      cases h
      refine .inr (.inl ⟨_, by rw [← hK]; exact t.sq, ?_⟩)
      cases rs <;> rfl
  | ref a =>
    cases rx
    simp only [tru] at h
    cases e : rd S a with
    | none => rw [e] at h; cases h
    | some ds =>
      rw [e] at h
      cases h
      obtain ⟨vs, sq, rs⟩ := rdAt (K := K) sr e
      refine .inl ⟨vs, sq, ?_⟩
      cases rs <;> rfl
  | fn f => cases h
theorem se_var {x : Str} {i : Nat} (hN : X.N[i]? = some x) (hv : Vis X.env.scope x) (hd : (x == ("__debug__" : Str)) = false) (hcd : (x == ("__classdict__" : Str)) = false) :
    SE X Z W (.Name x pos) (fun σ S Q _ => match σ.get i with | some d => Q d S | none => False) :=
  PE.imp (pe_var hN hv hd hcd) fun τ H Q ⟨σ, S, Qa, E, er, sr, w, q, qe⟩ => by
    dsimp only at w
    split at w
    · rename_i d e
      obtain ⟨v, h1, h2⟩ := er.2 i d e
      exact ⟨v, h1, q.pure sr h2 w⟩
    · exact w.elim
theorem se_con {e : Expr} {d : D} {v : V} (h : PE X e (tC v)) (r : ∀ H, RD Z H d v) : SE X Z W e (fun _ S Q _ => Q d S) :=
  PE.imp h fun τ H Q ⟨σ, S, Qa, E, er, sr, w, q, qe⟩ => q.pure sr (r H) w
/-- two operands, then an operation by values -/
theorem two_ok {R : V → V → Hp → Prop} {op : D → D → Sto → Prop} {τ : St} {H : Hp} {σ : Env} {S : Sto} {E : QX} (er : ER Z H σ τ) (sr : SR Z S H) (w : wa σ S (fun x S1 => wb σ S1 (fun y S2 => op x y S2) E) E) (qe : Kx Z W τ H E)
    (ok : ∀ {S2 : Sto} {H2 : Hp} {x y : D} {v u : V}, TK H H2 → SR Z S2 H2 → RD Z H2 x v → RD Z H2 y u → op x y S2 → R v u H2) : TEx Z W wa τ H fun x H1 => TEx Z W wb τ H1 fun y H2 => R x y H2 := by
  refine ⟨σ, S, _, E, er, sr, w, fun d v S1 H1 k1 sr1 rd1 w1 => ?_, qe⟩
  refine ⟨σ, S1, _, E, er.keep k1, sr1, w1, fun d2 v2 S2 H2 k2 sr2 rd2 w2 => ?_, qe.keep k1⟩
  exact ok (k1.trans k2) sr2 (rd1.keep k2) rd2 w2
theorem se_bin {op : Bop} (hK : Z.K = X.K) (ha : SE X Z W a₀ wa) (hb : SE X Z W b₀ wb) : SE X Z W (.BinOp a₀ (bopOf op) b₀ pos) (fun σ S Q E => wa σ S (fun x S1 => wb σ S1 (fun y S2 => binW op x y S2 Q) E) E) :=
  PE.imp (pe_op (rAny.ok X _) ha hb) fun τ H Q ⟨σ, S, Qa, E, er, sr, w, q, qe⟩ => two_ok er sr w qe fun k sr rx ry h => bin_ok hK sr rx ry h (q.keep k)
theorem se_cmp {op : Cop} (hK : Z.K = X.K) (hu : X.A.units + 620 < cLine) (ha : SE X Z W a₀ wa) (hb : SE X Z W b₀ wb) (hm : behindInMarks (copOf op) b₀ = false) : SE X Z W (.Compare a₀ [copOf op] [b₀] pos) (fun σ S Q E => wa σ S (fun x S1 => wb σ S1 (fun y S2 => cmpW op x y S2 Q) E) E) :=
  PE.imp (pe_cmpR (rAny.ok X _) ha hb hm) fun τ H Q ⟨σ, S, Qa, E, er, sr, w, q, qe⟩ => two_ok er sr w qe fun k sr rx ry h => cmp_ok hK hu sr rx ry h (q.keep k)
/-- every answer of a comparison is a truth value -/
theorem cmpW_bl {op : Cop} {x y : D} {S : Sto} {Q : QD} (h : cmpW op x y S Q) : cmpW op x y S (fun d S' => ∃ r, d = .bl r ∧ Q d S') := by
  have eqw : ∀ {n : Bool}, eqW x y n S Q → eqW x y n S (fun d S' => ∃ r, d = .bl r ∧ Q d S') := fun {n} h => by
    unfold eqW at h ⊢
    split at h
    · exact ⟨_, rfl, h⟩
    · exact ⟨_, rfl, h⟩
    · obtain ⟨r, e, h⟩ := h
      exact ⟨r, e, _, rfl, h⟩
  have inw : ∀ {n : Bool}, inW x y n S Q → inW x y n S (fun d S' => ∃ r, d = .bl r ∧ Q d S') := fun {n} h => by
    unfold inW at h ⊢
    split at h
    · exact ⟨_, rfl, h⟩
    · rename_i a hx
      split at h
      · rename_i kvs e
        split at h
        · exact ⟨_, rfl, h⟩
        · exact ⟨_, rfl, h⟩
        · exact h.elim
      · obtain ⟨r, e, h⟩ := h
        exact ⟨r, e, _, rfl, h⟩
      · obtain ⟨r, e, h⟩ := h
        exact ⟨r, e, _, rfl, h⟩
      · exact h.elim
    · obtain ⟨r, e, h⟩ := h
      exact ⟨r, e, _, rfl, h⟩
    · exact h.elim
  cases op with
  | eq => exact eqw h
  | ne => exact eqw h
  | in_ => exact inw h
  | notin => exact inw h
  | lt => simp only [cmpW] at h ⊢; split at h <;> first | exact ⟨_, rfl, h⟩ | exact h.elim
  | le => simp only [cmpW] at h ⊢; split at h <;> first | exact ⟨_, rfl, h⟩ | exact h.elim
  | gt => simp only [cmpW] at h ⊢; split at h <;> first | exact ⟨_, rfl, h⟩ | exact h.elim
  | ge => simp only [cmpW] at h ⊢; split at h <;> first | exact ⟨_, rfl, h⟩ | exact h.elim
  | is_ => simp only [cmpW] at h ⊢; split at h <;> first | exact ⟨_, rfl, h⟩ | exact h.elim
  | isnot => simp only [cmpW] at h ⊢; split at h <;> first | exact ⟨_, rfl, h⟩ | exact h.elim
theorem st_cmp {op : Cop} (hK : Z.K = X.K) (hu : X.A.units + 620 < cLine) (ha : SE X Z W a₀ wa) (hb : SE X Z W b₀ wb) (hm : behindInMarks (copOf op) b₀ = false) : SEt X Z W (.Compare a₀ [copOf op] [b₀] pos) (toT fun σ S Q E => wa σ S (fun x S1 => wb σ S1 (fun y S2 => cmpW op x y S2 Q) E) E) :=
  PT.imp (pt_cmpR (rAny.ok X _) ha hb hm) fun τ H Q ⟨σ, S, Qa, E, er, sr, w, q, qe⟩ => by
    refine two_ok er sr w qe fun k sr rx ry h => cmp_ok hK hu sr rx ry (cmpW_bl h) fun d v S' H' k' sr' rd' h' => ?_
    obtain ⟨r, e, h'⟩ := h'
    subst e
    cases rd'
    exact ⟨r, rfl, q r S' H' (k.trans k') sr' h'⟩
theorem se_neg (ha : SE X Z W a₀ wa) : SE X Z W (.UnaryOp .USub a₀ pos) (fun σ S Q E => wa σ S (fun x S1 => match x with | .int i => Q (.int (-i)) S1 | _ => False) E) :=
  PE.imp (pe_un un_neg ha) fun τ H Q ⟨σ, S, Qa, E, er, sr, w, q, qe⟩ => by
    refine ⟨σ, S, _, E, er, sr, w, fun d v S1 H1 k1 sr1 rd1 w1 => ?_, qe⟩
    dsimp only at w1
    split at w1
    · cases rd1; exact ⟨_, rfl, (q.keep k1).pure sr1 .int w1⟩
    · exact w1.elim
/-! ### and, or, not, if else -/
theorem se_and {rest : List Expr} (hK : Z.K = X.K) (ha : SE X Z W a₀ wa) (hb : SE X Z W (.BoolOp .And (b₀ :: rest) pos) wb) : SE X Z W (.BoolOp .And (a₀ :: b₀ :: rest) pos) (fun σ S Q E => wa σ S (fun x S1 => match tru S1 x with | some true => wb σ S1 Q E | some false => Q x S1 | none => False) E) :=
  PE.imp (pe_andT ha hb) fun τ H Q ⟨σ, S, Qa, E, er, sr, w, q, qe⟩ => by
    refine ⟨σ, S, _, E, er, sr, w, fun d v S1 H1 k1 sr1 rd1 w1 => ?_, qe⟩
    dsimp only at w1
    split at w1
    · rename_i e; exact ⟨_, tru_tv hK sr1 rd1 e, iteT ⟨σ, S1, Qa, E, er.keep k1, sr1, w1, q.keep k1, qe.keep k1⟩⟩
    · rename_i e; exact ⟨_, tru_tv hK sr1 rd1 e, iteF ((q.keep k1).pure sr1 rd1 w1)⟩
    · exact w1.elim
theorem se_or {rest : List Expr} (hK : Z.K = X.K) (ha : SE X Z W a₀ wa) (hb : SE X Z W (.BoolOp .Or (b₀ :: rest) pos) wb) : SE X Z W (.BoolOp .Or (a₀ :: b₀ :: rest) pos) (fun σ S Q E => wa σ S (fun x S1 => match tru S1 x with | some true => Q x S1 | some false => wb σ S1 Q E | none => False) E) :=
  PE.imp (pe_orT ha hb) fun τ H Q ⟨σ, S, Qa, E, er, sr, w, q, qe⟩ => by
    refine ⟨σ, S, _, E, er, sr, w, fun d v S1 H1 k1 sr1 rd1 w1 => ?_, qe⟩
    dsimp only at w1
    split at w1
    · rename_i e; exact ⟨_, tru_tv hK sr1 rd1 e, iteT ((q.keep k1).pure sr1 rd1 w1)⟩
    · rename_i e; exact ⟨_, tru_tv hK sr1 rd1 e, iteF ⟨σ, S1, Qa, E, er.keep k1, sr1, w1, q.keep k1, qe.keep k1⟩⟩
    · exact w1.elim
theorem se_one {op : BoolOp} (ha : SE X Z W a₀ wa) : SE X Z W (.BoolOp op [a₀] pos) wa := pe_one ha
theorem se_not (hK : Z.K = X.K) (ha : SE X Z W a₀ wa) : SE X Z W (.UnaryOp .Not a₀ pos) (fun σ S Q E => wa σ S (fun x S1 => match tru S1 x with | some r => Q (.bl (!r)) S1 | none => False) E) :=
  PE.imp (pe_notT ha) fun τ H Q ⟨σ, S, Qa, E, er, sr, w, q, qe⟩ => by
    refine ⟨σ, S, _, E, er, sr, w, fun d v S1 H1 k1 sr1 rd1 w1 => ?_, qe⟩
    dsimp only at w1
    split at w1
    · rename_i e; exact ⟨_, tru_tv hK sr1 rd1 e, (q.keep k1).pure sr1 .bl w1⟩
    · exact w1.elim
theorem st_plain (hK : Z.K = X.K) (ha : SE X Z W a₀ wa) (he : ∀ whole, isTrue a₀ X.env whole = (do let v ← whole; standAt a₀.pos; holding [v] (truthy v))) : SEt X Z W a₀ (toT wa) :=
  PT.imp (pt_truth ha he) fun τ H Q ⟨σ, S, Qa, E, er, sr, w, q, qe⟩ => by
    refine ⟨σ, S, _, E, er, sr, w, fun d v S1 H1 k1 sr1 rd1 w1 => ?_, qe⟩
    dsimp only at w1
    split at w1
    · rename_i e; exact ⟨_, tru_tv hK sr1 rd1 e, q _ _ _ k1 sr1 w1⟩
    · exact w1.elim
theorem st_not (ha : SEt X Z W a₀ (toT wa)) : SEt X Z W (.UnaryOp .Not a₀ pos) (toT fun σ S Q E => wa σ S (fun x S1 => match tru S1 x with | some r => Q (.bl (!r)) S1 | none => False) E) :=
  PT.imp (pt_not ha) fun τ H Q ⟨σ, S, Qa, E, er, sr, w, q, qe⟩ => ⟨σ, S, fun r S1 => Qa (!r) S1, E, er, sr, w, fun r S1 H1 k1 sr1 w1 => q _ _ _ k1 sr1 w1, qe⟩
/-- a test of and, or: whatever its whole is -/
def SWt (X : Cx) (Z : Nm) (W : WX) (e : Expr) (w : Env → Sto → (Bool → Sto → Prop) → QX → Prop) : Prop := PW X e (TTx Z W w)
theorem PW.imp {e : Expr} {t t' : TT} (h : PW X e t) (i : ∀ τ H Q, t' τ H Q → t τ H Q) : PW X e t' := ⟨fun wh pins s σ H Q I w => h.run wh pins s σ H Q I (i _ _ _ w)⟩
theorem sw_and1 (ha : SEt X Z W a₀ (toT wa)) : SWt X Z W (.BoolOp .And [a₀] pos) (toT wa) := pw_and1 ha
theorem sw_or1 (ha : SEt X Z W a₀ (toT wa)) : SWt X Z W (.BoolOp .Or [a₀] pos) (toT wa) := pw_or1 ha
theorem SWt.t {e : Expr} {w : Env → Sto → (Bool → Sto → Prop) → QX → Prop} (h : SWt X Z W e w) : SEt X Z W e w := h.pt
/-- what the word of and, or asks, as a test -/
theorem toT_of {S1 : Sto} {x : D} {r : Bool} {Qa : Bool → Sto → Prop} (e : tru S1 x = some r) (h : match tru S1 x with | some r => Qa r S1 | none => False) : Qa r S1 := by rw [e] at h; exact h
theorem sw_and {rest : List Expr} (ha : SEt X Z W a₀ (toT wa)) (hb : SWt X Z W (.BoolOp .And (b₀ :: rest) pos) (toT wb)) :
    SWt X Z W (.BoolOp .And (a₀ :: b₀ :: rest) pos) (toT fun σ S Q E => wa σ S (fun x S1 => match tru S1 x with | some true => wb σ S1 Q E | some false => Q x S1 | none => False) E) :=
  PW.imp (pw_and ha hb) fun τ H Q ⟨σ, S, Qa, E, er, sr, w, q, qe⟩ => by
    have ee : (fun (x : D) (S1 : Sto) => (match tru S1 x with | some true => wb σ S1 (fun x S1 => match tru S1 x with | some r => Qa r S1 | none => False) E | some false => (match tru S1 x with | some r => Qa r S1 | none => False) | none => False : Prop)) = fun x S1 => (match tru S1 x with | some r => (if r = true then toT wb σ S1 Qa E else Qa false S1) | none => False : Prop) := by
      funext x S1
      cases h : tru S1 x with
      | none => rfl
      | some r => cases r <;> simp [toT]
    have w' : wa σ S (fun x S1 => (match tru S1 x with | some r => (if r = true then toT wb σ S1 Qa E else Qa false S1) | none => False : Prop)) E := by rw [← ee]; exact w
    refine ⟨σ, S, fun r S1 => if r = true then toT wb σ S1 Qa E else Qa false S1, E, er, sr, w', fun r S1 H1 k1 sr1 w1 => ?_, qe⟩
    · cases r with
      | true => exact iteT ⟨σ, S1, Qa, E, er.keep k1, sr1, w1, fun r S2 H2 k2 => q r S2 H2 (k1.trans k2), qe.keep k1⟩
      | false => exact iteF (q _ _ _ k1 sr1 w1)
theorem sw_or {rest : List Expr} (ha : SEt X Z W a₀ (toT wa)) (hb : SWt X Z W (.BoolOp .Or (b₀ :: rest) pos) (toT wb)) :
    SWt X Z W (.BoolOp .Or (a₀ :: b₀ :: rest) pos) (toT fun σ S Q E => wa σ S (fun x S1 => match tru S1 x with | some true => Q x S1 | some false => wb σ S1 Q E | none => False) E) :=
  PW.imp (pw_or ha hb) fun τ H Q ⟨σ, S, Qa, E, er, sr, w, q, qe⟩ => by
    have ee : (fun (x : D) (S1 : Sto) => (match tru S1 x with | some true => (match tru S1 x with | some r => Qa r S1 | none => False) | some false => wb σ S1 (fun x S1 => match tru S1 x with | some r => Qa r S1 | none => False) E | none => False : Prop)) = fun x S1 => (match tru S1 x with | some r => (if r = true then Qa true S1 else toT wb σ S1 Qa E) | none => False : Prop) := by
      funext x S1
      cases h : tru S1 x with
      | none => rfl
      | some r => cases r <;> simp [toT]
    have w' : wa σ S (fun x S1 => (match tru S1 x with | some r => (if r = true then Qa true S1 else toT wb σ S1 Qa E) | none => False : Prop)) E := by rw [← ee]; exact w
    refine ⟨σ, S, fun r S1 => if r = true then Qa true S1 else toT wb σ S1 Qa E, E, er, sr, w', fun r S1 H1 k1 sr1 w1 => ?_, qe⟩
    · cases r with
      | true => exact iteT (q _ _ _ k1 sr1 w1)
      | false => exact iteF ⟨σ, S1, Qa, E, er.keep k1, sr1, w1, fun r S2 H2 k2 => q r S2 H2 (k1.trans k2), qe.keep k1⟩
theorem se_ite (hc : SEt X Z W c₀ (toT wc)) (ha : SE X Z W a₀ wa) (hb : SE X Z W b₀ wb) :
    SE X Z W (.IfExp c₀ a₀ b₀ pos) (fun σ S Q E => wc σ S (fun x S1 => match tru S1 x with | some true => wa σ S1 Q E | some false => wb σ S1 Q E | none => False) E) :=
  PE.imp (pe_ifExp hc ha hb) fun τ H Q ⟨σ, S, Qa, E, er, sr, w, q, qe⟩ => by
    have ee : (fun (x : D) (S1 : Sto) => (match tru S1 x with | some true => wa σ S1 Qa E | some false => wb σ S1 Qa E | none => False : Prop)) = fun x S1 => (match tru S1 x with | some r => (if r = true then wa σ S1 Qa E else wb σ S1 Qa E) | none => False : Prop) := by
      funext x S1
      cases h : tru S1 x with
      | none => rfl
      | some r => cases r <;> simp
    have w' : wc σ S (fun x S1 => (match tru S1 x with | some r => (if r = true then wa σ S1 Qa E else wb σ S1 Qa E) | none => False : Prop)) E := by rw [← ee]; exact w
    refine ⟨σ, S, fun r S1 => if r = true then wa σ S1 Qa E else wb σ S1 Qa E, E, er, sr, w', fun r S1 H1 k1 sr1 w1 => ?_, qe⟩
    · cases r with
      | true => exact iteT ⟨σ, S1, Qa, E, er.keep k1, sr1, w1, q.keep k1, qe.keep k1⟩
      | false => exact iteF ⟨σ, S1, Qa, E, er.keep k1, sr1, w1, q.keep k1, qe.keep k1⟩
/-! ### displays, subscripts, slices, fields -/
theorem sa_nil : SAs X Z W [] (fun _ S Q _ => Q [] S) := PA.imp pa_nil fun τ H Q ⟨σ, S, Qa, E, er, sr, w, q, qe⟩ => q [] [] S H (TK.refl H) sr .nil w
theorem sa_cons {es : List Expr} {ws : Env → Sto → (List D → Sto → Prop) → QX → Prop} (ha : SE X Z W a₀ wa) (hs : SAs X Z W es ws) (hst : starEach (a₀ :: es) X.env = (false, eval a₀ X.env) :: starEach es X.env) :
    SAs X Z W (a₀ :: es) (fun σ S Q E => wa σ S (fun x S1 => ws σ S1 (fun xs S2 => Q (x :: xs) S2) E) E) :=
  PA.imp (pa_cons ha hs hst) fun τ H Q ⟨σ, S, Qa, E, er, sr, w, q, qe⟩ => by
    refine ⟨σ, S, _, E, er, sr, w, fun d v S1 H1 k1 sr1 rd1 w1 => ?_, qe⟩
    exact ⟨σ, S1, _, E, er.keep k1, sr1, w1, fun ds vs S2 H2 k2 sr2 rd2 w2 => q _ _ _ _ (k1.trans k2) sr2 (.cons (rd1.keep k2) rd2) w2, qe.keep k1⟩
theorem se_tup {es : List Expr} {k : Nat} {ws : Env → Sto → (List D → Sto → Prop) → QX → Prop} (hs : SAs X Z W es ws) : SE X Z W (.Tuple es k pos) (fun σ S Q E => ws σ S (fun ds S1 => ds.length ≤ sizeLine ∧ Q (.tup ds) S1) E) :=
  PE.imp (pe_tup hs) fun τ H Q ⟨σ, S, Qa, E, er, sr, w, q, qe⟩ => ⟨σ, S, _, E, er, sr, w, fun ds vs S1 H1 k1 sr1 rd1 w1 => ⟨by rw [← rd1.length]; exact w1.1, (q.keep k1).newT sr1 rd1 w1.2⟩, qe⟩
theorem se_lst {es : List Expr} {ws : Env → Sto → (List D → Sto → Prop) → QX → Prop} (hs : SAs X Z W es ws) : SE X Z W (.List es pos) (fun σ S Q E => ws σ S (fun ds S1 => ds.length ≤ sizeLine ∧ newW (.lst ds) S1 Q) E) :=
  PE.imp (pe_lst hs) fun τ H Q ⟨σ, S, Qa, E, er, sr, w, q, qe⟩ => ⟨σ, S, _, E, er, sr, w, fun ds vs S1 H1 k1 sr1 rd1 w1 => ⟨by rw [← rd1.length]; exact w1.1, (q.keep k1).newL sr1 rd1 w1.2⟩, qe⟩
theorem se_ix (hK : Z.K = X.K) (hu : X.A.units + 620 < cLine) (ha : SE X Z W a₀ wa) (hb : SE X Z W b₀ wb) (hp : PlainIx b₀) : SE X Z W (.Subscript a₀ b₀ pos) (fun σ S Q E => wa σ S (fun x S1 => wb σ S1 (fun y S2 => ixW x y S2 Q) E) E) :=
  PE.imp (pe_ix (ixAny.ok X) ha hb hp) fun τ H Q ⟨σ, S, Qa, E, er, sr, w, q, qe⟩ => two_ok er sr w qe fun k sr rx ry h => ix_ok hK hu sr rx ry h (q.keep k)
theorem so_none : SO X Z W none (fun _ S Q _ => Q none S) := ⟨fun pins s σ H Q I ⟨_, S, Qa, E, er, sr, w, q, qe⟩ => (po_none (X := X)).run pins s σ H Q I (q none S H (TK.refl H) sr w)⟩
theorem so_some (ha : SE X Z W a₀ wa) : SO X Z W (some a₀) (fun σ S Q E => wa σ S (fun x S1 => match x with | .int i => Q (some i) S1 | _ => False) E) := ⟨fun pins s τ H Q I ⟨σ, S, Qa, E, er, sr, w, q, qe⟩ =>
  (po_some ha).run pins s τ H Q I (by
    refine ⟨σ, S, _, E, er, sr, w, fun d v S1 H1 k1 sr1 rd1 w1 => ?_, qe⟩
    dsimp only at w1
    split at w1
    · cases rd1; exact ⟨_, rfl, q _ _ _ k1 sr1 w1⟩
    · exact w1.elim)⟩
theorem se_slc {lo hi : Option Expr} {wl wh : Env → Sto → (Option Int → Sto → Prop) → QX → Prop} {p2 : Pos} (hK : Z.K = X.K) (ha : SE X Z W a₀ wa) (hl : SO X Z W lo wl) (hh : SO X Z W hi wh) :
    SE X Z W (.Subscript a₀ (.Slice lo hi none p2) pos) (fun σ S Q E => wa σ S (fun x S1 => wl σ S1 (fun l S2 => wh σ S2 (fun h S3 => slW x l h S3 Q) E) E) E) :=
  PE.imp (pe_slice (slAny.ok X) ha hl hh) fun τ H Q ⟨σ, S, Qa, E, er, sr, w, q, qe⟩ => by
    refine ⟨σ, S, _, E, er, sr, w, fun d v S1 H1 k1 sr1 rd1 w1 => ?_, qe⟩
    refine ⟨σ, S1, _, E, er.keep k1, sr1, w1, fun l S2 H2 k2 sr2 w2 => ?_, qe.keep k1⟩
    refine ⟨σ, S2, _, E, (er.keep k1).keep k2, sr2, w2, fun h S3 H3 k3 sr3 w3 => ?_, (qe.keep k1).keep k2⟩
    exact sl_ok hK sr3 ((rd1.keep k2).keep k3) w3 (((q.keep k1).keep k2).keep k3)
end
end Mini
end L2
/-! Mini, part G: calls, fields, comprehensions -/
namespace L2
namespace Mini
open PySem PySem.Spec PyProof.Rows
/-- a promise about plain data, over the abstract heap -/
def LS (Z : Nm) (sp : Spec) : Sp := fun vs H Q E => ∃ ds S Qa Ea, RDs Z H ds vs ∧ SR Z S H ∧ sp ds S Qa Ea ∧ Kq Z H Qa Q ∧
  ∀ x cls dd S' H', TK H H' → SR Z S' H' → XR Z H' x cls dd → Ea x S' → E cls dd H'
/-! ### room, frame by frame -/
/-- room for k frames more -/
structure Rm (k : Nat) (A : Around) : Prop where
  hd : A.handled = none
  dp : A.depth + k + 14 < recursionLimit
  un : A.units + 4 * k + 800 < cLine
theorem Rm.mono {j k : Nat} {A : Around} (r : Rm k A) (h : j ≤ k) : Rm j A := ⟨r.hd, by have := r.dp; omega, by have := r.un; omega⟩
theorem Rm.deeper {k : Nat} {A : Around} (r : Rm (k + 1) A) (env : PySem.Env) : Rm k (A.deeper env) :=
  ⟨r.hd, by have := r.dp; show A.depth + 1 + k + 14 < _; omega, by have := r.un; show A.units + 3 + 4 * k + 800 < _; omega⟩
theorem Rm.make {k : Nat} {A : Around} (r : Rm (k + 1) A) (C : Addr) (us : List Value) (kw : List (Str × Value)) : Rm k (A.under (.builtin "type.__call__" ⟨.ref C :: us, kw⟩)) :=
  ⟨r.hd, by have := r.dp; rw [make_depth]; omega, by have := r.un; rw [make_units]; omega⟩
theorem Rm.room {k : Nat} {A : Around} (r : Rm k A) : Room 2 A := ⟨r.hd, by have := r.dp; omega, by have := r.un; omega⟩
theorem Rm.depth {k : Nat} {A : Around} (r : Rm k A) : A.depth < recursionLimit := by have := r.dp; omega
structure FnR (P : Program) (w : World) (K : PySem.W.Frag) (mg : Str → Option Value) (base : Heap) (CX : CXT) (k : Nat) (f : Addr) (fd : FuncData) (ps : List Str) (sp : Sp) : Prop where
  len : ∀ vs H Q E, sp vs H Q E → vs.length = ps.length
  run : ∀ (A : Around) (outer : List PySem.Env) (s : Shared) (H : Hp) (args : Args) (us : List Value) (vs : List V) (Q : VK) (E : XK), Rm k A → Env0 P w K mg base A outer s H → BindsTo s fd args (ps.zip us) → Vals vs us → sp vs H Q E →
    codeAny (model P w) A (.call (.ref f) args) (CR CX outer P w H s Q E) s
theorem FnR.imp {P : Program} {w : World} {K : PySem.W.Frag} {mg : Str → Option Value} {base : Heap} {CX : CXT} {k : Nat} {f : Addr} {fd : FuncData} {ps : List Str} {sp sp' : Sp} (F : FnR P w K mg base CX k f fd ps sp)
    (h : ∀ vs H Q E, sp' vs H Q E → sp vs H Q E) : FnR P w K mg base CX k f fd ps sp' :=
  ⟨fun vs H Q E q => F.len vs H Q E (h _ _ _ _ q), fun A outer s H args us vs Q E hr he hb hv hs => F.run A outer s H args us vs Q E hr he hb hv (h _ _ _ _ hs)⟩
/-- at the top -/
theorem FnR.top {P : Program} {w : World} {K : PySem.W.Frag} {mg : Str → Option Value} {base : Heap} {CX : CXT} {j k : Nat} {f : Addr} {fd : FuncData} {ps : List Str} {sp : Sp} (F : FnR P w K mg base CX j f fd ps sp) (h : j + 9 ≤ 3 * k) (h2 : 150 ≤ k) : FnOk P w K mg base CX k f fd ps sp :=
  ⟨F.len, fun A outer s H args us vs Q E hr => F.run A outer s H args us vs Q E ⟨hr.hd, by have := hr.dp; omega, by have := hr.un; omega⟩⟩
theorem fnr_of {CX : CXT} {P : Program} {w : World} {K : PySem.W.Frag} {mg : Str → Option Value} {base : Heap} {k : Nat} {f : Addr} {name qual : Str} {params : Arguments} {body : List Stmt} {scope : Scope} {dV kV doc pm cdv ct oc : Value} {an od : Option Addr}
    {osl : Array (Option Value)} {N ps : List Str} {sp : Sp} (lk : K.lookup f = some ⟨oc, od, .func (PySem.W.fnOf name qual params body scope dV kV doc pm an cdv ct), osl⟩) (hcd : PySem.W.codeIn K cdv qual = true) (S : FnScope N ps scope)
    (len : ∀ vs H Q E, sp vs H Q E → vs.length = ps.length)
    (hbody : ∀ (A : Around) (outer : List PySem.Env) (s : Shared) (H : Hp) (vs : List V) (Q : VK) (E : XK), Rm k (A.deeper (envOfC qual scope s.heap.objs.size f cdv)) → sp vs H Q E →
      ∃ t, PSs (cxOf CX P w K mg base N qual scope f cdv A outer s H E) body t ∧ t { nx := fun _ H' => Q .non H', rt := Q } (start N vs) H) :
    FnR P w K mg base CX (k + 1) f (PySem.W.fnOf name qual params body scope dV kV doc pm an cdv ct) ps sp := by
  refine ⟨len, fun A outer s H args us vs Q E hr e0 hb r hsp => ?_⟩
  have hl := len _ _ _ _ hsp
  have KX : K.In s.heap := e0.mod.kin.keeps fun b o e => (e0.bs b o e).1
  have lim : s.heap.NoLimit := e0.mod.nolimit.keeps fun b o e => (e0.bs b o e).1
  have hkind : ∀ y ∈ ps.zip us, scope.names.lookup y.1 = some .local ∨ (scope.names.lookup y.1 = some .cell ∧ ((cellsFrom (s.heap.objs.size + 1) scope.names []).lookup y.1).isSome = true) := fun ⟨n, v⟩ hy => by
    rcases S.par n (List.of_mem_zip hy).1 with q | q
    · exact .inl q
    · exact .inr ⟨q, PySem.W.cellsFrom_some _ _ _ (.inl q)⟩
  refine codeAny_call_function hr.depth (KX _ _ lk) rfl S.co S.gen rfl (PySem.W.codeRec_of KX hcd) (hb _ _ _ _ ?_)
  refine wpAny_newFunctionEnv_cells S.kind hkind fun env he s1 x => ?_
  subst he
  refine ⟨lim.keeps x.toInCall.keep, codeAny_func ?_⟩
  obtain ⟨t, ht, hq⟩ := hbody A outer s H vs Q E (hr.deeper _) hsp
  have I : Inv (cxOf CX P w K mg base N qual scope f cdv A outer s H E) [] (start N vs) H s1 := inv_start S hr.hd e0 hl r x
  refine wpAny_mono (ht.run [] s1 (start N vs) H _ I hq) (fun fl s' hs => ?_) fun e s' hs => hs
  have fin : ∀ {σ' : St} {H' : Hp} {v : V} {u : Value}, Inv (cxOf CX P w K mg base N qual scope f cdv A outer s H E) [] σ' H' s' → RelV v u → Q v H' → CE outer P w H s Q u s' :=
    fun {σ' H' v u} J rv q => ⟨v, H', J.os, J.bare, J.base, J.hok, rv, q⟩
  cases fl with
  | ret u =>
    obtain ⟨v, σ', H', J, rv, q⟩ := hs
    exact fin J rv q
  | next =>
    obtain ⟨σ', H', J, q⟩ := hs
    exact fin (v := V.non) (u := Value.none) J rfl q
  | brk =>
    obtain ⟨_, _, _, q⟩ := hs
    exact False.elim q
  | cont =>
    obtain ⟨_, _, _, q⟩ := hs
    exact False.elim q
theorem Fun.okR {P : Program} {w : World} {K : PySem.W.Frag} {mg : Str → Option Value} {base : Heap} {x qual : Str} {st : Stmt} {f : Addr} {fd : FuncData} {N ps : List Str} {k : Nat} {sp : Sp} (F : Fun K x qual st f fd) (S : FnScope N ps (defScope st)) (len : ∀ vs H Q E, sp vs H Q E → vs.length = ps.length)
    (hbody : ∀ (cdv : Value) (A : Around) (outer : List PySem.Env) (s : Shared) (H : Hp) (vs : List V) (Q : VK) (E : XK), Rm k (A.deeper (envOfC qual (defScope st) s.heap.objs.size f cdv)) → sp vs H Q E →
      ∃ t, PSs (cxOf (L2.CX P w) P w K mg base N qual (defScope st) f cdv A outer s H E) (defBody st) t ∧ t { nx := fun _ H' => Q .non H', rt := Q } (start N vs) H) : FnR P w K mg base (L2.CX P w) (k + 1) f fd ps sp := by
  obtain ⟨oc, od, kV, doc, pm, an, cdv, ct, osl, rfl, lk, hcd⟩ := F.ex
  exact fnr_of lk hcd S len fun A outer s H vs Q E hr hsp => hbody cdv A outer s H vs Q E hr hsp
section
variable {X : Cx} {CX : CXT} {k : Nat} {f C : Addr} {fd : FuncData} {ps : List Str} {sp : Sp}
theorem run_fnR {E : St → XK} {pins : List (Addr × Obj)} {σ : St} {H : Hp} {s : Shared} {Q : VK} {us : List Value} {vs : List V} (F : FnR X.prog X.w X.K X.mg X.base CX k f fd ps sp) (hr : Rm k X.A) (hb : Binds X.K fd ps []) (hx : PassesAt CX X σ (E σ))
    (I : Inv X pins σ H s) (r : Vals vs us) (h : sp vs H Q (E σ)) : wpAny (model X.prog X.w) X.A (PySem.call (.ref f) us) (EP X pins σ Q) X.xe s := by
  have hl : us.length = ps.length := by rw [← r.length]; exact F.len _ _ _ _ h
  have b := hb s us I.kIn (by rw [List.append_nil]; exact hl)
  rw [List.append_nil] at b
  refine wpAny_call (codeAny_mono (F.run X.A X.stack s H ⟨us, []⟩ us vs Q (E σ) hr I.env0 b r h) fun r s' hq => ?_)
  cases r with
  | error e => exact hx pins H s e s' I hq
  | ok fl =>
    cases fl with
    | ret u => exact I.after hq
    | next => exact False.elim hq
    | brk => exact False.elim hq
    | cont => exact False.elim hq
theorem run_makeR {E : XK} {pins : List (Addr × Obj)} {σ : St} {H : Hp} {s : Shared} {Q : VK} {us : List Value} {vs : List V} (M : Mk X.K C f) (F : FnR X.prog X.w X.K X.mg X.base CX k f fd ps sp) (hr : Rm (k + 1) X.A) (hb : Binds X.K fd ps [])
    (hx : Passes CX X E) (I : Inv X pins σ H s) (r : Vals vs us)
    (h : ∀ x dx, H x = none → H dx = none → dx ≠ x → sp (.ref x :: vs) (upd (upd H dx (.own x)) x (.ins C dx [])) (fun v H2 => v = .non ∧ Q (.ref x) H2) E) :
    wpAny (model X.prog X.w) X.A (PySem.call (.ref C) us) (EP X pins σ Q) X.xe s := by
  have hq := h (s.heap.objs.size + 1) s.heap.objs.size (I.hok.fresh (Nat.le_succ _)) (I.hok.fresh (Nat.le_refl _)) (Nat.ne_of_lt (Nat.lt_succ_self _))
  have I2 := Inv.made (C := C) I
  have r2 : Vals (V.ref (s.heap.objs.size + 1) :: vs) (Value.ref (s.heap.objs.size + 1) :: us) := .cons rfl r
  have hl : (Value.ref (s.heap.objs.size + 1) :: us).length = ps.length := by
    have e := r2.length
    rw [F.len _ _ _ _ hq] at e
    exact e.symm
  have b := hb { s with heap := (s.heap.push PySem.W.emptyDict).push (PySem.W.instObj C s.heap.objs.size) } (Value.ref (s.heap.objs.size + 1) :: us) I2.kIn (by rw [List.append_nil]; exact hl)
  rw [List.append_nil] at b
  refine wpAny_call (make_map (f := f) I.kIn M.makes M.init (beq_iff_eq.mp M.fn) (codeAny_mono (F.run _ X.stack _ _ ⟨Value.ref (s.heap.objs.size + 1) :: us, []⟩ (Value.ref (s.heap.objs.size + 1) :: us) _ _ E (hr.make C us [])
    (I2.env0.make C us []) b r2 hq) fun r s' hq' => ?_))
  cases r with
  | error e => exact hx pins σ _ _ e s' I2 hq'
  | ok fl =>
    cases fl with
    | ret u =>
      obtain ⟨v, H', I3, rv, ev, q3⟩ := I2.after hq'
      subst ev
      exact ⟨rv, ⟨V.ref (s.heap.objs.size + 1), H', I3, rfl, q3⟩⟩
    | next => exact False.elim hq'
    | brk => exact False.elim hq'
    | cont => exact False.elim hq'
end
/-- what is known of the defs and classes, with room for k calls -/
structure Fx (P : Program) (w : World) (K : PySem.W.Frag) (mg : Str → Option Value) (base : Heap) (A : Around) (Z : Nm) (G : Gam) (k : Nat) : Prop where
  zk : Z.K = K
  room : Rm k A
  fn : ∀ i ds S Q E, G.fn i ds S Q E → ∃ fd ps, FnR P w K mg base (L2.CX P w) k (Z.fa i) fd ps (LS Z (G.fn i)) ∧ Binds K fd ps [] ∧ PySem.W.keepIn K (.ref (Z.fa i)) = true
  cls : ∀ c, c < Z.nc → Cls K (Z.cla c)
  na : ∀ c f, c < Z.nc → f < Z.nf → NoAttr K (Z.cla c) (Z.fld f)
  mth : ∀ c m i, G.mt c m = some i → Meth K (Z.cla c) (Z.mn m) (Z.fa i)
  mnf : ∀ c m i, G.mt c m = some i → ∀ f, f < Z.nf → Z.fld f ≠ Z.mn m
  ini : ∀ c ds S Q E, G.ini c ds S Q E → c < Z.nc ∧ ∃ fI fd ps j, Mk K (Z.cla c) fI ∧ FnR P w K mg base (L2.CX P w) j fI fd ps (LS Z (G.ini c)) ∧ Binds K fd ps [] ∧ j + 1 ≤ k
abbrev FX (X : Cx) (Z : Nm) (G : Gam) (k : Nat) : Prop := Fx X.prog X.w X.K X.mg X.base X.A Z G k
theorem Fx.hu {P : Program} {w : World} {K : PySem.W.Frag} {mg : Str → Option Value} {base : Heap} {A : Around} {Z : Nm} {G : Gam} {k : Nat} (F : Fx P w K mg base A Z G k) : A.units + 620 < cLine := by
  have := F.room.un; omega
section
variable {X : Cx} {Z : Nm} {G : Gam} {k : Nat} {W : WX} {a₀ b₀ c₀ e₀ : Expr} {es₀ : List Expr} {wa wb wc : WE0} {ws : Env → Sto → (List D → Sto → Prop) → QX → Prop} {pos apos p : Pos}
/-- the callee runs, by its promise over plain data -/
theorem run_ls (F : FX X Z G k) (tk : Takes X W) {pins : List (Addr × Obj)} {τ : St} {H : Hp} {s : Shared} {Q : VK} {us : List Value} {vs : List V} {ds : List D} {S : Sto} {Qa : QD} {E : QX} {i : Nat} (I : Inv X pins τ H s) (r : Vals vs us) (rd : RDs Z H ds vs) (sr : SR Z S H)
    (h : G.fn i ds S Qa E) (q : Kq Z H Qa Q) (qe : Kx Z W τ H E) : PySem.W.keepIn X.K (.ref (Z.fa i)) = true ∧ wpAny (model X.prog X.w) X.A (PySem.call (.ref (Z.fa i)) us) (EP X pins τ Q) X.xe s := by
  obtain ⟨fd, ps, ok, hb, kp⟩ := F.fn _ _ _ _ _ h
  exact ⟨kp, run_fnR (E := WE W) ok F.room hb (passAt tk τ) I r ⟨ds, S, Qa, E, rd, sr, h, q, qe⟩⟩
/-- f(..) of a global name -/
theorem se_call {x : Str} {i : Nat} (F : FX X Z G k) (tk : Takes X W) (hg : Gl X x) (hm : X.mg x = some (.ref (Z.fa i))) (kp : PySem.W.keepIn X.K (.ref (Z.fa i)) = true) (hdb : (x == ("__debug__" : Str)) = false) (ha : SAs X Z W (e₀ :: es₀) ws)
    (he : starEach (e₀ :: es₀) X.env = (false, eval e₀ X.env) :: starEach es₀ X.env) (hpl : (backTo pos (starEach es₀ X.env)).any (·.1) = false) :
    SE X Z W (.Call (.Name x p) (e₀ :: es₀) [] pos) (fun σ S Q E => ws σ S (fun ds S1 => G.fn i ds S1 Q E) E) := by
  refine ⟨fun pins s τ H Q I ⟨σ, S, Qa, E, er, sr, w, q, qe⟩ => ?_⟩
  refine wpAny_Call_Name_kw (ld_glob I hg hm ?_ hdb)
  refine PySem.W.callWith_K (h₀ := X.base) I.ok.mod.kin kp (thn (ha.run pos pins s τ H _ I ⟨σ, S, _, E, er, sr, w, fun ds vs S1 H1 k1 sr1 rd1 w1 => (⟨k1, ds, S1, sr1, rd1, w1⟩ : TK H H1 ∧ ∃ ds S1, SR Z S1 H1 ∧ RDs Z H1 ds vs ∧ G.fn i ds S1 Qa E), qe⟩) fun us s1 ⟨vs, H1, I1, r1, k1, ds, S1, sr1, rd1, w1⟩ => ⟨I1.kIn, ?_⟩) he hpl
  exact (run_ls F tk I1 r1 rd1 sr1 w1 (q.keep k1) (qe.keep k1)).2
theorem se_call0 {x : Str} {i : Nat} (F : FX X Z G k) (tk : Takes X W) (hg : Gl X x) (hm : X.mg x = some (.ref (Z.fa i))) (kp : PySem.W.keepIn X.K (.ref (Z.fa i)) = true) (hdb : (x == ("__debug__" : Str)) = false) :
    SE X Z W (.Call (.Name x p) [] [] pos) (fun σ S Q E => G.fn i [] S Q E) := by
  refine ⟨fun pins s τ H Q I ⟨σ, S, Qa, E, er, sr, w, q, qe⟩ => ?_⟩
  refine wpAny_Call_Name_kw (ld_glob I hg hm ?_ hdb)
  exact PySem.W.callWith_K0 I.kIn kp (run_ls F tk I .nil .nil sr w q qe).2
/-- a call of a name of the def that holds a def -/
theorem se_callv {x : Str} {j : Nat} (F : FX X Z G k) (tk : Takes X W) (hN : X.N[j]? = some x) (hv : Vis X.env.scope x) (hd : (x == ("__debug__" : Str)) = false) (hcd : (x == ("__classdict__" : Str)) = false) (kp : ∀ i, i < G.nfn → PySem.W.keepIn X.K (.ref (Z.fa i)) = true) (ha : SAs X Z W (e₀ :: es₀) ws)
    (he : starEach (e₀ :: es₀) X.env = (false, eval e₀ X.env) :: starEach es₀ X.env) (hpl : (backTo pos (starEach es₀ X.env)).any (·.1) = false) :
    SE X Z W (.Call (.Name x p) (e₀ :: es₀) [] pos) (fun σ S Q E => match σ.get j with | some (.fn f) => f < G.nfn ∧ ws σ S (fun ds S1 => G.fn f ds S1 Q E) E | _ => False) := by
  refine ⟨fun pins s τ H Q I ⟨σ, S, Qa, E, er, sr, w, q, qe⟩ => ?_⟩
  dsimp only at w
  split at w
  · rename_i f e
    obtain ⟨v, h1, h2⟩ := er.2 j _ e
    cases h2
    refine wpAny_Call_Name_kw (thn ((pe_var (pos := p) hN hv hd hcd).run pins s τ H (fun v H1 => v = .ref (Z.fa f) ∧ H1 = H) I ⟨_, h1, rfl, rfl⟩) fun u s1 ⟨v, H1, I1, r1, q1⟩ => ?_)
    obtain ⟨rfl, rfl⟩ := q1
    cases r1
    refine PySem.W.callWith_K (h₀ := X.base) I.ok.mod.kin (kp f w.1) (thn (ha.run pos pins s1 τ _ _ I1 ⟨σ, S, _, E, er, sr, w.2, fun ds vs S1 H2 k1 sr1 rd1 w1 => (⟨k1, ds, S1, sr1, rd1, w1⟩ : TK _ H2 ∧ ∃ ds S1, SR Z S1 H2 ∧ RDs Z H2 ds vs ∧ G.fn f ds S1 Qa E), qe⟩) fun us s2 ⟨vs, H2, I2, r2, k1, ds, S1, sr1, rd1, w1⟩ => ⟨I2.kIn, ?_⟩) he hpl
    exact (run_ls F tk I2 r2 rd1 sr1 w1 (q.keep k1) (qe.keep k1)).2
  · exact w.elim
/-- a built-in function, a built-in class -/
def biTy : Bi → Bool
  | .int | .tuple | .list | .str => true
  | _ => false
theorem se_bi {x : Str} {b : Bi} (F : FX X Z G k) (hc : X.calm = true) (hg : Gl X x) (hm : X.mg x = none) (hv : bootBuiltins x = some (biF b)) (ha : SAs X Z W (e₀ :: es₀) ws) (hn : x ≠ "__name__") (hdb : (x == ("__debug__" : Str)) = false)
    (hF : (∃ id, biF b = .builtin id) ∨ ∃ T, biF b = .type T)
    (he : starEach (e₀ :: es₀) X.env = (false, eval e₀ X.env) :: starEach es₀ X.env) (hpl : (backTo pos (starEach es₀ X.env)).any (·.1) = false) :
    SE X Z W (.Call (.Name x p) (e₀ :: es₀) [] pos) (fun σ S Q E => ws σ S (fun ds S1 => biW b ds S1 Q) E) := by
  have go : ∀ {τ : St} {H : Hp} {Q : VK}, TEx Z W (fun σ S Q E => ws σ S (fun ds S1 => biW b ds S1 Q) E) τ H Q → tCB (cAny X (biF b)) (TAx Z W ws) τ H Q := fun {τ H Q} ⟨σ, S, Qa, E, er, sr, w, q, qe⟩ =>
    ⟨σ, S, _, E, er, sr, w, fun ds vs S1 H1 k1 sr1 rd1 w1 => bi_ok F.zk hc sr1 rd1 w1 (q.keep k1), qe⟩
  rcases hF with ⟨id, e⟩ | ⟨T, e⟩
  · exact PE.imp (pe_callB (id := id) (r := cAny X (biF b)) (by rw [← e]; exact cAny.ok X _) hg hm (by rw [← e]; exact hv) ha hn hdb he hpl) fun τ H Q h => go h
  · exact PE.imp (pe_callTy (T := T) (r := cAny X (biF b)) (by rw [← e]; exact cAny.ok X _) hg hm (by rw [← e]; exact hv) ha hn hdb he hpl) fun τ H Q h => go h
/-! ### fields, methods, new instances -/
theorem insAt {S : Sto} {H : Hp} {a : Addr} {c : Nat} {fs : List (Nat × D)} (sr : SR Z S H) (e : S a = some (.ins c fs)) : c < Z.nc ∧ ∃ dx gs, H a = some (.ins (Z.cla c) dx gs) ∧ RF Z H fs gs := sr a _ e
theorem se_att {f : Nat} {x : Str} (F : FX X Z G k) (hf : f < Z.nf) (hx : x = Z.fld f) (ha : SE X Z W a₀ wa) (hb : attributeBase a₀ x X.env (eval a₀ X.env) = eval a₀ X.env) :
    SE X Z W (.Attribute a₀ x pos) (fun σ S Q E => wa σ S (fun x S1 => match x with | .ref p => (match S1 p with | some (.ins _ fs) => (match fget fs f with | some d => Q d S1 | none => False) | _ => False) | _ => False) E) := by
  subst hx
  refine PE.imp (pe_fld ha hb) fun τ H Q ⟨σ, S, Qa, E, er, sr, w, q, qe⟩ => ?_
  refine ⟨σ, S, _, E, er, sr, w, fun d v S1 H1 k1 sr1 rd1 w1 => ?_, qe⟩
  dsimp only at w1
  split at w1
  · cases rd1
    split at w1
    · rename_i e
      split at w1
      · rename_i d e2
        obtain ⟨n, dx, gs, h1, rf⟩ := insAt sr1 e
        obtain ⟨v, h2, h3⟩ := rf.get f hf e2
        exact ⟨_, _, dx, gs, v, rfl, h1, F.cls _ n, F.na _ _ n hf, h2, (q.keep k1).pure sr1 h3 w1⟩
      · exact w1.elim
    · exact w1.elim
  · exact w1.elim
/-- o.m(..), a def of the class -/
theorem se_mth {m : Nat} {x : Str} {pl : Sem Bool} (F : FX X Z G k) (tk : Takes X W) (hx : x = Z.mn m) (ho : SE X Z W a₀ wa) (ha : SAs X Z W (e₀ :: es₀) ws)
    (hst : starEach (e₀ :: es₀) X.env = (false, eval e₀ X.env) :: starEach es₀ X.env) (hpl : (backTo pos (starEach es₀ X.env)).any (·.1) = false)
    (ht : eval (.Call (.Attribute a₀ x apos) (e₀ :: es₀) [] pos) X.env = (do
      let ov ← eval a₀ X.env
      standAt apos.atName
      let (f, first) ← holding [ov] (getMethod ov x pl)
      callWith pos f first (backTo pos (starEach (e₀ :: es₀) X.env)) (backToKw pos (keywordEach [] X.env)))) :
    SE X Z W (.Call (.Attribute a₀ x apos) (e₀ :: es₀) [] pos) (fun σ S Q E => wa σ S (fun x S1 => match x with | .ref p => (match S1 p with | some (.ins c fs) => (match G.mt c m with | some f => ws σ S1 (fun ds S2 => G.fn f (x :: ds) S2 Q E) E | none => False) | _ => False) | _ => False) E) := by
  subst hx
  refine ⟨fun pins s τ H Q I ⟨σ, S, Qa, E, er, sr, w, q, qe⟩ => ?_⟩
  refine PySem.W.methodCall_KW (pl := pl) (thn (ho.run pins s τ H (fun v H1 => TK H H1 ∧ ∃ d S1, SR Z S1 H1 ∧ RD Z H1 d v ∧ (match d with | .ref p => (match S1 p with | some (.ins c fs) => (match G.mt c m with | some f => ws σ S1 (fun ds S2 => G.fn f (d :: ds) S2 Qa E) E | none => False) | _ => False) | _ => False)) I
    ⟨σ, S, _, E, er, sr, w, fun d v S1 H1 k1 sr1 rd1 w1 => ⟨k1, d, S1, sr1, rd1, w1⟩, qe⟩) fun u s1 ⟨v, H1, I1, rv, k1, d, S1, sr1, rd1, w1⟩ => ?_) ht
  split at w1
  · rename_i a
    cases rd1
    split at w1
    · rename_i c fs e
      split at w1
      · rename_i i em
        obtain ⟨n, dx, gs, h1, rf⟩ := insAt sr1 e
        cases rv
        have M := F.mth _ _ _ em
        refine getmeth_ok I1 h1 (F.cls _ n) M (rf.none _ (F.mnf _ _ _ em)) ?_
        refine PySem.W.callWith_K (first := [.ref a]) (h₀ := X.base) I.ok.mod.kin M.kp (thn (ha.run pos pins s1 τ H1 _ I1 ⟨σ, S1, _, E, er.keep k1, sr1, w1, fun ds vs S2 H2 k2 sr2 rd2 w2 => (⟨k2, ds, S2, sr2, rd2, w2⟩ : TK H1 H2 ∧ ∃ ds S2, SR Z S2 H2 ∧ RDs Z H2 ds vs ∧ G.fn i (.ref a :: ds) S2 Qa E), qe.keep k1⟩) fun us s2 ⟨vs, H2, I2, r2, k2, ds, S2, sr2, rd2, w2⟩ => ⟨I2.kIn, ?_⟩) hst hpl
        exact (run_ls F tk (us := .ref a :: us) (vs := .ref a :: vs) (ds := .ref a :: ds) I2 (.cons rfl r2) (.cons .ref rd2) sr2 w2 (q.keep (k1.trans k2)) (qe.keep (k1.trans k2))).2
      · exact w1.elim
    · exact w1.elim
  · exact w1.elim
theorem se_mth0 {m : Nat} {x : Str} {pl : Sem Bool} (F : FX X Z G k) (tk : Takes X W) (hx : x = Z.mn m) (ho : SE X Z W a₀ wa)
    (ht : eval (.Call (.Attribute a₀ x apos) [] [] pos) X.env = (do
      let ov ← eval a₀ X.env
      standAt apos.atName
      let (f, first) ← holding [ov] (getMethod ov x pl)
      callWith pos f first (backTo pos (starEach [] X.env)) (backToKw pos (keywordEach [] X.env)))) :
    SE X Z W (.Call (.Attribute a₀ x apos) [] [] pos) (fun σ S Q E => wa σ S (fun x S1 => match x with | .ref p => (match S1 p with | some (.ins c fs) => (match G.mt c m with | some f => G.fn f [x] S1 Q E | none => False) | _ => False) | _ => False) E) := by
  subst hx
  refine ⟨fun pins s τ H Q I ⟨σ, S, Qa, E, er, sr, w, q, qe⟩ => ?_⟩
  refine PySem.W.methodCall_KW (pl := pl) (thn (ho.run pins s τ H (fun v H1 => TK H H1 ∧ ∃ d S1, SR Z S1 H1 ∧ RD Z H1 d v ∧ (match d with | .ref p => (match S1 p with | some (.ins c fs) => (match G.mt c m with | some f => G.fn f [d] S1 Qa E | none => False) | _ => False) | _ => False)) I
    ⟨σ, S, _, E, er, sr, w, fun d v S1 H1 k1 sr1 rd1 w1 => ⟨k1, d, S1, sr1, rd1, w1⟩, qe⟩) fun u s1 ⟨v, H1, I1, rv, k1, d, S1, sr1, rd1, w1⟩ => ?_) ht
  split at w1
  · rename_i a
    cases rd1
    split at w1
    · rename_i c fs e
      split at w1
      · rename_i i em
        obtain ⟨n, dx, gs, h1, rf⟩ := insAt sr1 e
        cases rv
        have M := F.mth _ _ _ em
        refine getmeth_ok I1 h1 (F.cls _ n) M (rf.none _ (F.mnf _ _ _ em)) ?_
        exact PySem.W.callWith_K0 (first := [.ref a]) I1.kIn M.kp (run_ls F tk (us := [.ref a]) (vs := [.ref a]) (ds := [.ref a]) I1 (.cons rfl .nil) (.cons .ref .nil) sr1 w1 (q.keep k1) (qe.keep k1)).2
      · exact w1.elim
    · exact w1.elim
  · exact w1.elim
end
end Mini
end L2
/-! Mini, part H: chains, isinstance, built-in methods, new instances, what loops go over -/
namespace L2
namespace Mini
open PySem PySem.Spec PyProof.Rows
section
variable {X : Cx} {Z : Nm} {G : Gam} {k : Nat} {W : WX} {a₀ b₀ c₀ e₀ : Expr} {es₀ : List Expr} {wa wb wc : WE0} {ws : Env → Sto → (List D → Sto → Prop) → QX → Prop} {pos apos p : Pos}
/-- the word of a chain of two comparisons -/
def chnW (o1 o2 : Cop) (wa wb wc : WE0) : WE0 := fun σ S Q E => wa σ S (fun x S1 => wb σ S1 (fun y S2 => cmpW o1 x y S2 (fun r S3 => match r with | .bl true => wc σ S3 (fun z S4 => cmpW o2 y z S4 Q) E | .bl false => Q (.bl false) S3 | _ => False)) E) E
theorem chn_core {o1 o2 : Cop} (F : FX X Z G k) {τ : St} {H : Hp} {Q : VK} {σ : Env} {S : Sto} {Qa : QD} {E : QX} (er : ER Z H σ τ) (sr : SR Z S H) (w : chnW o1 o2 wa wb wc σ S Qa E) (qe : Kx Z W τ H E)
    (q : ∀ r v S' H', TK H H' → SR Z S' H' → RD Z H' (.bl r) v → Qa (.bl r) S' → Q v H') : tChain (rAny X (compareOp (copOf o1))) (rAny X (compareOp (copOf o2))) (TEx Z W wa) (TEx Z W wb) (TEx Z W wc) τ H Q := by
  refine two_ok er sr w qe fun {S2 H2 x y v u} k2 sr2 rx ry h => ?_
  refine cmp_ok F.zk F.hu sr2 rx ry (cmpW_bl h) fun d z S3 H3 k3 sr3 rd3 h3 => ?_
  obtain ⟨r, e, h3⟩ := h3
  subst e
  cases rd3
  refine ⟨r, rfl, ?_⟩
  cases r with
  | false => exact iteF (q _ _ _ _ (k2.trans k3) sr3 .bl h3)
  | true =>
    refine iteT ⟨σ, S3, _, E, (er.keep k2).keep k3, sr3, h3, fun d4 v4 S4 H4 k4 sr4 rd4 w4 => ?_, (qe.keep k2).keep k3⟩
    refine cmp_ok F.zk F.hu sr4 ((ry.keep k3).keep k4) rd4 (cmpW_bl w4) fun d5 v5 S5 H5 k5 sr5 rd5 h5 => ?_
    obtain ⟨r5, e5, h5⟩ := h5
    subst e5
    exact q _ _ _ _ (((k2.trans k3).trans k4).trans k5) sr5 rd5 h5
theorem se_chn {o1 o2 : Cop} (F : FX X Z G k) (ha : SE X Z W a₀ wa) (hb : SE X Z W b₀ wb) (hc : SE X Z W c₀ wc) (hm : lastMarks [copOf o1, copOf o2] [b₀, c₀] = false) : SE X Z W (.Compare a₀ [copOf o1, copOf o2] [b₀, c₀] pos) (chnW o1 o2 wa wb wc) :=
  PE.imp (pe_chain (rAny.ok X _) (rAny.ok X _) ha hb hc hm) fun τ H Q ⟨σ, S, Qa, E, er, sr, w, q, qe⟩ => chn_core F er sr w qe fun r v S' H' k sr' rd' h => q _ _ _ _ k sr' rd' h
theorem st_chn {o1 o2 : Cop} (F : FX X Z G k) (ha : SE X Z W a₀ wa) (hb : SE X Z W b₀ wb) (hc : SE X Z W c₀ wc) (hm : lastMarks [copOf o1, copOf o2] [b₀, c₀] = false) : SEt X Z W (.Compare a₀ [copOf o1, copOf o2] [b₀, c₀] pos) (toT (chnW o1 o2 wa wb wc)) :=
  PT.imp (pt_chain (rAny.ok X _) (rAny.ok X _) ha hb hc hm) fun τ H Q ⟨σ, S, Qa, E, er, sr, w, q, qe⟩ => chn_core F er sr w qe fun r v S' H' k sr' rd' h => by
    cases rd'
    exact ⟨r, rfl, q _ _ _ k sr' h⟩
/-! ### isinstance -/
def tyName : Ty → String
  | .int => "int" | .bool => "bool" | .str => "str" | .tuple => "tuple" | .list => "list" | .exc _ => ""
/-- one type for all that isinstance asks -/
theorem isi_tys {K : PySem.W.Frag} {S : Sto} {H : Hp} {x : D} {v : V} {t0 : Ty} {r0 : Bool} (hK : Z.K = K) (sr : SR Z S H) (rx : RD Z H x v) (h0 : isiW x t0 S = some r0) :
    ∃ ty, TyX K H v ty ∧ ∀ t r, isiW x t S = some r → PySem.W.kitOne K ty (.type (tyName t)) = some r := by
  have tup : ∀ {ds : List D} {v : V}, RD Z H (.tup ds) v → TyX K H v (.type "tuple") := fun r => by
    cases r with
    | tup t rs =>
      rcases t with t | ⟨o, its, n, e, c, _⟩
      · exact .base (.tup t)
      · exact .kTuple (by rw [← hK]; exact e) c
  cases x with
  | non => cases rx; refine ⟨_, .base .non, fun t r h => kit_ty ?_⟩; cases t <;> simp only [isiW] at h <;> first | (cases h; decide +kernel) | cases h
  | bl b => cases rx; refine ⟨_, .base (.bl _), fun t r h => kit_ty ?_⟩; cases t <;> simp only [isiW] at h <;> first | (cases h; decide +kernel) | cases h
  | int i => cases rx; refine ⟨_, .base (.int _), fun t r h => kit_ty ?_⟩; cases t <;> simp only [isiW] at h <;> first | (cases h; decide +kernel) | cases h
  | str l => cases rx; refine ⟨_, .base (.str _), fun t r h => kit_ty ?_⟩; cases t <;> simp only [isiW] at h <;> first | (cases h; decide +kernel) | cases h
  | tup ds => refine ⟨_, tup rx, fun t r h => kit_ty ?_⟩; cases t <;> simp only [isiW] at h <;> first | (cases h; decide +kernel) | cases h
  | fn f => cases t0 <;> simp only [isiW] at h0 <;> cases h0
  | ref a =>
    cases rx
    cases e : S a with
    | none => cases t0 <;> simp only [isiW, e] at h0 <;> cases h0
    | some c =>
      cases c with
      | lst ds =>
        obtain ⟨vs, h1, _⟩ := lstAt sr e
        refine ⟨_, .base (.lst h1), fun t r h => kit_ty ?_⟩; cases t <;> simp only [isiW, e] at h <;> first | (cases h; decide +kernel) | cases h
      | fls ds =>
        obtain ⟨o, vs, h1, _⟩ := sr _ _ e
        refine ⟨_, .base (.frz h1), fun t r h => kit_ty ?_⟩; cases t <;> simp only [isiW, e] at h <;> first | (cases h; decide +kernel) | cases h
      | dct ds =>
        obtain ⟨vs, h1, _⟩ := sr _ _ e
        refine ⟨_, .base (.dK h1), fun t r h => kit_ty ?_⟩; cases t <;> simp only [isiW, e] at h <;> first | (cases h; decide +kernel) | cases h
      | ins c fs => cases t0 <;> simp only [isiW, e] at h0 <;> cases h0
theorem isi_ty {K : PySem.W.Frag} {S : Sto} {H : Hp} {x : D} {v : V} {t : Ty} {r : Bool} (hK : Z.K = K) (sr : SR Z S H) (rx : RD Z H x v) (h : isiW x t S = some r) : ∃ ty, TyX K H v ty ∧ PySem.W.kitOne K ty (.type (tyName t)) = some r :=
  let ⟨ty, h1, h2⟩ := isi_tys hK sr rx h; ⟨ty, h1, h2 t r h⟩
/-- two classes: one type -/
theorem isi_ty2 {K : PySem.W.Frag} {S : Sto} {H : Hp} {x : D} {v : V} {t u : Ty} {r q : Bool} (hK : Z.K = K) (sr : SR Z S H) (rx : RD Z H x v) (h : isiW x t S = some r) (h2 : isiW x u S = some q) :
    ∃ ty, TyX K H v ty ∧ PySem.W.kitOne K ty (.type (tyName t)) = some r ∧ PySem.W.kitOne K ty (.type (tyName u)) = some q :=
  let ⟨ty, h3, h4⟩ := isi_tys hK sr rx h; ⟨ty, h3, h4 t r h, h4 u q h2⟩
theorem se_isi {xT : Str} {t : Ty} {pT : Pos} (F : FX X Z G k) (hg : Gl X "isinstance") (hm : X.mg "isinstance" = none) (hgT : Gl X xT) (hmT : X.mg xT = none) (hvT : bootBuiltins xT = some (.type (tyName t))) (hn : xT ≠ "__name__") (hdb : (xT == ("__debug__" : Str)) = false)
    (ha : SE X Z W a₀ wa) (he : starEach [a₀, .Name xT pT] X.env = (false, eval a₀ X.env) :: starEach [.Name xT pT] X.env) (hv : bootBuiltins "isinstance" = some (.builtin "isinstance")) :
    SE X Z W (.Call (.Name "isinstance" p) [a₀, .Name xT pT] [] pos) (fun σ S Q E => wa σ S (fun x S1 => match isiW x t S1 with | some r => Q (.bl r) S1 | none => False) E) := by
  have hT : PE X (.Name xT pT) (tC (.ty (tyName t))) := pe_bltn hgT hmT hvT rfl hn hdb
  refine PE.imp (pe_callB call_isi hg hm hv (pa_cons ha (pa_cons hT pa_nil) he) (by decide) (by decide) he) fun τ H Q ⟨σ, S, Qa, E, er, sr, w, q, qe⟩ => ?_
  refine ⟨σ, S, _, E, er, sr, w, fun d v S1 H1 k1 sr1 rd1 w1 => ?_, qe⟩
  dsimp only at w1
  split at w1
  · rename_i r e
    obtain ⟨ty, t1, t2⟩ := isi_ty (K := X.K) F.zk sr1 rd1 e
    exact ⟨_, _, _, _, _, rfl, .ty _, t1, t2, (q.keep k1).pure sr1 .bl w1⟩
  · exact w1.elim
/-! ### methods of built-in classes -/
def mtAny (X : Cx) (id : String) : V → List V → Hp → VK → Prop := fun x xs H Q => ∃ r, MtR X id r ∧ r x xs H Q
theorem mtAny.ok (X : Cx) (id : String) : MtR X id (mtAny X id) := fun pins s σ H x xs v us Q I rx rs ⟨r, h, q⟩ => h pins s σ H x xs v us Q I rx rs q
theorem se_bm {m : Bm} {x : Str} (F : FX X Z G k) (hc : X.calm = true) (pa : PlainAttrs (bmT m)) (slot : Slot (bmT m) x (bmId m)) (hty : typeOf (.builtin (bmId m)) = pure (.type "method_descriptor")) (ho : SE X Z W a₀ wa) (ha : SAs X Z W (e₀ :: es₀) ws)
    (hbase : attributeBase a₀ x X.env (eval a₀ X.env) = eval a₀ X.env)
    (hfew : ((backTo pos (starEach (e₀ :: es₀) X.env)).all (fun x => !x.1) && (backToKw pos (keywordEach [] X.env)).all (fun x => x.1.isSome)
      && decide ((e₀ :: es₀).length + ([] : List Keyword).length + (if ([] : List Keyword).isEmpty then 0 else 1) < 30)) = true)
    (hline : (apos.endLine == pos.line) = true) (hs : starEach (e₀ :: es₀) X.env = (false, eval e₀ X.env) :: starEach es₀ X.env) (hplain : (backTo pos (starEach es₀ X.env)).any (·.1) = false) :
    SE X Z W (.Call (.Attribute a₀ x apos) (e₀ :: es₀) [] pos) (fun σ S Q E => wa σ S (fun x S1 => bmTy m x S1 ∧ ws σ S1 (fun ds S2 => bmW m x ds S2 Q) E) E) := by
  refine PE.imp (pe_bm pa slot hty (mtAny.ok X _) ho ha hbase hfew hline hs hplain) fun τ H Q ⟨σ, S, Qa, E, er, sr, w, q, qe⟩ => ?_
  refine ⟨σ, S, _, E, er, sr, w, fun d v S1 H1 k1 sr1 rd1 w1 => ⟨bmTy_ok sr1 rd1 w1.1, ?_⟩, qe⟩
  exact ⟨σ, S1, _, E, er.keep k1, sr1, w1.2, fun ds vs S2 H2 k2 sr2 rd2 w2 => bm_ok F.zk F.hu hc sr2 (rd1.keep k2) rd2 w2 (q.keep (k1.trans k2)), qe.keep k1⟩
theorem se_bm0 {m : Bm} {x : Str} (F : FX X Z G k) (hc : X.calm = true) (pa : PlainAttrs (bmT m)) (slot : Slot (bmT m) x (bmId m)) (hty : typeOf (.builtin (bmId m)) = pure (.type "method_descriptor")) (ho : SE X Z W a₀ wa)
    (hbase : attributeBase a₀ x X.env (eval a₀ X.env) = eval a₀ X.env) (hline : (apos.endLine == pos.line) = true) :
    SE X Z W (.Call (.Attribute a₀ x apos) [] [] pos) (fun σ S Q E => wa σ S (fun x S1 => bmTy m x S1 ∧ bmW m x [] S1 Q) E) := by
  refine PE.imp (pe_bm0 pa slot hty (mtAny.ok X _) ho hbase hline) fun τ H Q ⟨σ, S, Qa, E, er, sr, w, q, qe⟩ => ?_
  exact ⟨σ, S, _, E, er, sr, w, fun d v S1 H1 k1 sr1 rd1 w1 => ⟨bmTy_ok sr1 rd1 w1.1, bm_ok F.zk F.hu hc sr1 rd1 .nil w1.2 (q.keep k1)⟩, qe⟩
/-! ### new instances -/
theorem new_core (F : FX X Z G k) (tk : Takes X W) (ind : ∀ c d τ τ' H, W c d τ H → W c d τ' H) {c : Nat} {pins : List (Addr × Obj)} {τ : St} {H : Hp} {s : Shared} {Q : VK} {us : List Value} {vs : List V} {ds : List D} {S : Sto} {Qa : QD} {E : QX} (I : Inv X pins τ H s) (r : Vals vs us) (rd : RDs Z H ds vs) (sr : SR Z S H)
    (h : ∀ p, S p = none → G.ini c (.ref p :: ds) (S.upd p (.ins c [])) (fun r S2 => r = .non ∧ Qa (.ref p) S2) E) (q : Kq Z H Qa Q) (qe : Kx Z W τ H E) : wpAny (model X.prog X.w) X.A (PySem.call (.ref (Z.cla c)) us) (EP X pins τ Q) X.xe s := by
  obtain ⟨nc, fI, fd, ps, j, M, ok, hb, hj⟩ := F.ini _ _ _ _ _ (h _ (sr.free (I.hok.fresh (Nat.le_refl _))))
  refine run_makeR (E := fun cls d H' => W cls d τ H') M ok (F.room.mono hj) hb (fun pins σ H s e s' I c => passes_call tk (fun c d σ H w => ind _ _ _ _ _ w) pins σ H s e s' I c) I r fun x dx nx nd ne => ?_
  have k1 : TK H (upd H dx (.own x)) := TK.new nd
  have n2 : (upd H dx (.own x)) x = none := by rw [upd_ne (Ne.symm ne)]; exact nx
  have k2 : TK (upd H dx (.own x)) (upd (upd H dx (.own x)) x (.ins (Z.cla c) dx [])) := TK.new n2
  have k := k1.trans k2
  have sr2 : SR Z (S.upd x (.ins c [])) (upd (upd H dx (.own x)) x (.ins (Z.cla c) dx [])) := (sr.new nd).put (c := .ins c []) k2 ⟨nc, dx, [], upd_same, .nil⟩
  refine ⟨_, _, _, E, .cons .ref (rd.keep k), sr2, h x (sr.free nx), fun d v S' H' k' sr' rd' ⟨e, w⟩ => ?_, fun x cls dd S' H' k' => qe x cls dd S' H' (k.trans k')⟩
  subst e
  cases rd'
  exact ⟨rfl, q _ _ _ _ (k.trans k') sr' .ref w⟩
theorem se_new {x : Str} {c : Nat} (F : FX X Z G k) (tk : Takes X W) (ind : ∀ c d τ τ' H, W c d τ H → W c d τ' H) (hg : Gl X x) (hm : X.mg x = some (.ref (Z.cla c))) (kp : PySem.W.keepIn X.K (.ref (Z.cla c)) = true) (hdb : (x == ("__debug__" : Str)) = false) (ha : SAs X Z W (e₀ :: es₀) ws)
    (he : starEach (e₀ :: es₀) X.env = (false, eval e₀ X.env) :: starEach es₀ X.env) (hpl : (backTo pos (starEach es₀ X.env)).any (·.1) = false) :
    SE X Z W (.Call (.Name x p) (e₀ :: es₀) [] pos) (fun σ S Q E => ws σ S (fun ds S1 => ∀ p, S1 p = none → G.ini c (.ref p :: ds) (S1.upd p (.ins c [])) (fun r S2 => r = .non ∧ Q (.ref p) S2) E) E) := by
  refine ⟨fun pins s τ H Q I ⟨σ, S, Qa, E, er, sr, w, q, qe⟩ => ?_⟩
  refine wpAny_Call_Name_kw (ld_glob I hg hm ?_ hdb)
  refine PySem.W.callWith_K (h₀ := X.base) I.ok.mod.kin kp (thn (ha.run pos pins s τ H _ I ⟨σ, S, _, E, er, sr, w, fun ds vs S1 H1 k1 sr1 rd1 w1 => (⟨k1, ds, S1, sr1, rd1, w1⟩ : TK H H1 ∧ ∃ ds S1, SR Z S1 H1 ∧ RDs Z H1 ds vs ∧ ∀ p, S1 p = none → G.ini c (.ref p :: ds) (S1.upd p (.ins c [])) (fun r S2 => r = .non ∧ Qa (.ref p) S2) E), qe⟩) fun us s1 ⟨vs, H1, I1, r1, k1, ds, S1, sr1, rd1, w1⟩ => ⟨I1.kIn, ?_⟩) he hpl
  exact new_core F tk ind I1 r1 rd1 sr1 w1 (q.keep k1) (qe.keep k1)
theorem se_new0 {x : Str} {c : Nat} (F : FX X Z G k) (tk : Takes X W) (ind : ∀ c d τ τ' H, W c d τ H → W c d τ' H) (hg : Gl X x) (hm : X.mg x = some (.ref (Z.cla c))) (kp : PySem.W.keepIn X.K (.ref (Z.cla c)) = true) (hdb : (x == ("__debug__" : Str)) = false) :
    SE X Z W (.Call (.Name x p) [] [] pos) (fun σ S Q E => ∀ p, S p = none → G.ini c [.ref p] (S.upd p (.ins c [])) (fun r S2 => r = .non ∧ Q (.ref p) S2) E) := by
  refine ⟨fun pins s τ H Q I ⟨σ, S, Qa, E, er, sr, w, q, qe⟩ => ?_⟩
  refine wpAny_Call_Name_kw (ld_glob I hg hm ?_ hdb)
  exact PySem.W.callWith_K0 I.kIn kp (new_core F tk ind I .nil .nil sr w q qe)
/-- a class without __init__ -/
theorem run_make0 {C : Addr} {pins : List (Addr × Obj)} {τ : St} {H : Hp} {s : Shared} {Q : VK} (hm : PySem.W.makesIn X.K C = true) (hi : PySem.W.findIn X.K (.ref C) "__init__" = some (some (.builtin "object.__init__"))) (I : Inv X pins τ H s)
    (h : ∀ x dx, H x = none → H dx = none → dx ≠ x → Q (.ref x) (upd (upd H dx (.own x)) x (.ins C dx []))) : wpAny (model X.prog X.w) X.A (PySem.call (.ref C) []) (EP X pins τ Q) X.xe s := by
  have hq := h (s.heap.objs.size + 1) s.heap.objs.size (I.hok.fresh (Nat.le_succ _)) (I.hok.fresh (Nat.le_refl _)) (Nat.ne_of_lt (Nat.lt_succ_self _))
  have I2 := Inv.made (C := C) I
  have Y := PySem.W.makes_of (M := model X.prog X.w) I.kIn hm
  refine wpAny_call (make_map0 I.kIn hm hi (fun self => PySem.W.Looks.of_pure (PySem.W.oi_bind self)) ?_)
  obtain ⟨hh, g, d, t, os⟩ := s
  have t1 : PySem.W.Looks (model X.prog X.w) ((hh.push PySem.W.emptyDict).push (PySem.W.instObj C hh.objs.size)) (typeOf (.ref (hh.objs.size + 1))) (.ref C) := by
    have e : ((hh.push PySem.W.emptyDict).push (PySem.W.instObj C hh.objs.size)).get? (hh.objs.size + 1) = some (PySem.W.instObj C hh.objs.size) := by
      have := Heap.get?_push_size (h := hh.push PySem.W.emptyDict) (o := PySem.W.instObj C hh.objs.size) (by rfl)
      rw [Heap.size_push] at this
      exact this
    exact (PySem.W.Looks.ld e).andThen .now
  have t2 : PySem.W.Looks (model X.prog X.w) ((hh.push PySem.W.emptyDict).push (PySem.W.instObj C hh.objs.size)) (isInstance (.ref (hh.objs.size + 1)) (.type "object")) true := t1.andThen (Y.top.keeps fun b o e => Heap.get?_push_of_some _ (Heap.get?_push_of_some _ e))
  refine codeAny_call_builtin PySem.W.oi_plain PySem.W.entry_oi (@PySem.W.check_slot (model X.prog X.w) _ _ _ "object.__init__" "object" "__init__" (.ref (hh.objs.size + 1)) [] [] _ PySem.W.oi_kind PySem.W.oi_split t2 (PySem.W.oi_args (.ref (hh.objs.size + 1))) ?_)
  rw [PySem.W.oi_run]
  exact wpAny_pure (And.intro rfl ⟨V.ref (hh.objs.size + 1), _, I2, rfl, hq⟩)
theorem se_newo {x : Str} {c : Nat} (hc : c < Z.nc) (h1 : PySem.W.makesIn X.K (Z.cla c) = true) (h2 : PySem.W.findIn X.K (.ref (Z.cla c)) "__init__" = some (some (.builtin "object.__init__"))) (hg : Gl X x) (hm : X.mg x = some (.ref (Z.cla c))) (kp : PySem.W.keepIn X.K (.ref (Z.cla c)) = true) (hdb : (x == ("__debug__" : Str)) = false) :
    SE X Z W (.Call (.Name x p) [] [] pos) (fun _ S Q _ => ∀ p, S p = none → Q (.ref p) (S.upd p (.ins c []))) := by
  refine ⟨fun pins s τ H Q I ⟨σ, S, Qa, E, er, sr, w, q, qe⟩ => ?_⟩
  refine wpAny_Call_Name_kw (ld_glob I hg hm ?_ hdb)
  refine PySem.W.callWith_K0 I.kIn kp (run_make0 h1 h2 I fun x dx nx nd ne => ?_)
  have k1 : TK H (upd H dx (.own x)) := TK.new nd
  have n2 : (upd H dx (.own x)) x = none := by rw [upd_ne (Ne.symm ne)]; exact nx
  have k2 : TK (upd H dx (.own x)) (upd (upd H dx (.own x)) x (.ins (Z.cla c) dx [])) := TK.new n2
  have sr2 : SR Z (S.upd x (.ins c [])) (upd (upd H dx (.own x)) x (.ins (Z.cla c) dx [])) := (sr.new nd).put (c := .ins c []) k2 ⟨hc, dx, [], upd_same, .nil⟩
  exact q _ _ _ _ (k1.trans k2) sr2 .ref (w x (sr.free nx))
end
end Mini
end L2
/-! Mini, part I: what loops go over, list comprehensions -/
namespace L2
namespace Mini
open PySem PySem.Spec PyProof.Rows
/-- the iterator J goes over the data ds while the store is alive; H0: the heap when it was made -/
structure Wlk (Z : Nm) (H0 : Hp) (J : It) (ds : List D) (live : Sto → Prop) : Prop where
  go : ∀ i S H, TK H0 H → SR Z S H → live S → i < ds.length → J.go i H
  stop : ∀ S H, TK H0 H → SR Z S H → live S → J.stop ds.length H
  yld : ∀ i S H x H' d, TK H0 H → SR Z S H → live S → ds[i]? = some d → J.yld i H x H' → TK H H' ∧ (∀ b o, H b = some o → H' b = some o) ∧ RD Z H' d x
def TIx (Z : Nm) (W : WX) (w : Env → Sto → (List D → (Sto → Prop) → Sto → Prop) → QX → Prop) : TI := fun τ H R => ∃ σ S Ra E, ER Z H σ τ ∧ SR Z S H ∧ w σ S Ra E ∧
  (∀ ds live S' H' J, TK H H' → SR Z S' H' → Wlk Z H' J ds live → Ra ds live S' → R J H') ∧ Kx Z W τ H E
def SI (X : Cx) (Z : Nm) (W : WX) (tg iter : Expr) (w : Env → Sto → (List D → (Sto → Prop) → Sto → Prop) → QX → Prop) : Prop := PI X tg iter (TIx Z W w)
theorem PI.imp {X : Cx} {tg iter : Expr} {t t' : TI} (h : PI X tg iter t) (i : ∀ τ H R, t' τ H R → t τ H R) : PI X tg iter t' := ⟨fun pins s σ H R I w => h.run pins s σ H R I (i _ _ _ w)⟩
section
variable {X : Cx} {Z : Nm} {G : Gam} {k : Nat} {W : WX} {a₀ b₀ c₀ e₀ tg : Expr} {es₀ : List Expr} {wa wb wc : WE0} {ws : Env → Sto → (List D → Sto → Prop) → QX → Prop} {pos apos p : Pos}
/-! ### by values: a list, a tuple, a text are gone over -/
theorem it_list {pins : List (Addr × Obj)} {τ : St} {H : Hp} {s : Shared} {a : Addr} {xs : List V} {R : It → Hp → Prop} (I : Inv X pins τ H s) (hq : SqL X.K H a xs) (q : R (Itl X.K a) H) : wpAny (model X.prog X.w) X.A (pyIter (.ref a)) (PIE X pins τ tg R) X.xe s := by
  obtain ⟨its, rv, pl, _⟩ := I.list hq
  refine wpAny_pyIter_list pl.isList ⟨s.heap.objs.size, [s.heap.objs.size], _, _, H, rfl, I.kept (t' := s.toks) fun b o e => ?_, turn_list a _, ⟨_, Heap.get?_push_size _ rfl, rfl, rfl⟩, fun b hb => ?_, q⟩
  · exact Heap.get?_push_of_some _ e
  · cases List.mem_singleton.mp hb
    exact I.fpOk (Nat.le_refl _) (I.hok.fresh (Nat.le_refl _))
theorem it_tuple {pins : List (Addr × Obj)} {τ : St} {H : Hp} {s : Shared} {a : Addr} {xs : List V} {R : It → Hp → Prop} (I : Inv X pins τ H s) (hq : SqT X.K H a xs) (q : R (Itt X.K a) H) : wpAny (model X.prog X.w) X.A (pyIter (.ref a)) (PIE X pins τ tg R) X.xe s := by
  obtain ⟨its, rv, pl, _⟩ := I.tuple hq
  refine wpAny_pyIter_tuple (show s.heap.IsTuple a its.toArray from pl) ⟨s.heap.objs.size, [s.heap.objs.size], _, _, H, rfl, I.kept (t' := s.toks) fun b o e => ?_, turn_tuple a _, ⟨_, Heap.get?_push_size _ rfl, rfl, rfl⟩, fun b hb => ?_, q⟩
  · exact Heap.get?_push_of_some _ e
  · cases List.mem_singleton.mp hb
    exact I.fpOk (Nat.le_refl _) (I.hok.fresh (Nat.le_refl _))
/-- a constant that is a value already there: to reach the rule of texts by values -/
theorem wlk_list {H : Hp} {S : Sto} {a : Addr} {ds : List D} (hK : Z.K = X.K) (e : rd S a = some ds) : Wlk Z H (Itl X.K a) ds (liveL a ds) where
  go := fun i S H k sr l hi => by
    obtain ⟨vs, sq, rs⟩ := rdAt (K := X.K) sr l
    exact ⟨vs, vs[i]'(by rw [← rs.length]; exact hi), sq, by simp⟩
  stop := fun S H k sr l => by
    obtain ⟨vs, sq, rs⟩ := rdAt (K := X.K) sr l
    exact ⟨vs, sq, by rw [rs.length]; exact Nat.le_refl _⟩
  yld := fun i S H x H' d k sr l hd y => by
    obtain ⟨e, y⟩ := y
    subst e
    obtain ⟨vs, sq, rs⟩ := rdAt (K := X.K) sr l
    obtain ⟨v, h1, h2⟩ := rs.get hd
    rw [y vs sq] at h1
    cases h1
    exact ⟨TK.refl _, fun _ _ h => h, h2⟩
theorem wlk_tuple {H : Hp} {a : Addr} {ds : List D} {vs : List V} (hK : Z.K = X.K) (t : TupAt Z.K H a vs) (rs : RDs Z H ds vs) : Wlk Z H (Itt X.K a) ds (fun _ => True) where
  go := fun i S H' k sr l hi => ⟨vs, vs[i]'(by rw [← rs.length]; exact hi), by rw [← hK]; exact (t.keep k).sq, by simp⟩
  stop := fun S H' k sr l => ⟨vs, by rw [← hK]; exact (t.keep k).sq, by rw [rs.length]; exact Nat.le_refl _⟩
  yld := fun i S H1 x H' d k sr l hd y => by
    obtain ⟨e, y⟩ := y
    subst e
    obtain ⟨v, h1, h2⟩ := rs.get hd
    rw [y vs (by rw [← hK]; exact (t.keep k).sq)] at h1
    cases h1
    exact ⟨TK.refl _, fun _ _ h => h, h2.keep k⟩
theorem wlk_str {H : Hp} {l : List Nat} : Wlk Z H (Its (st l)) (l.map fun c => D.str [c]) (fun _ => True) where
  go := fun i S H' k sr _ hi => by
    show i < (st l).cps.size
    simpa [st] using hi
  stop := fun S H' k sr _ => by
    show (st l).cps.size ≤ _
    simp [st]
  yld := fun i S H1 x H' d k sr _ hd y => by
    obtain ⟨e, c, hc, hx⟩ := y
    subst e hx
    rw [List.getElem?_map] at hd
    have hc' : l[i]? = some c := by simpa [st] using hc
    rw [hc'] at hd
    cases hd
    exact ⟨TK.refl _, fun _ _ h => h, .str (l := [c])⟩
theorem wlk_rng {H : Hp} {lo : Int} {n : Nat} : Wlk Z H (L2.Itr lo n) (rngD lo n) (fun _ => True) where
  go := fun i S H' k sr _ hi => by
    show i < n
    simpa [rngD] using hi
  stop := fun S H' k sr _ => by
    show n ≤ _
    simp [rngD]
  yld := fun i S H1 x H' d k sr _ hd y => by
    obtain ⟨e, hx⟩ := y
    subst e hx
    unfold rngD at hd
    rw [List.getElem?_map] at hd
    cases q : (List.range n)[i]? with
    | none => rw [q] at hd; cases hd
    | some j =>
      rw [q] at hd
      cases hd
      obtain ⟨h1, h2⟩ := List.getElem?_eq_some_iff.mp q
      rw [List.getElem_range] at h2
      subst h2
      exact ⟨TK.refl _, fun _ _ h => h, .int⟩
/-- texts by values, out of the rule for expressions -/
theorem it_str {pins : List (Addr × Obj)} {τ : St} {H : Hp} {s : Shared} {x : Str} {t : Tok} {R : It → Hp → Prop} (I : Inv X pins τ H s) (q : R (Its x) H) : wpAny (model X.prog X.w) X.A (pyIter (.str x t)) (PIE X pins τ tg R) X.xe s := by
  obtain ha | ha : x.cps.all (· < 128) = true ∨ x.cps.all (· < 128) = false := by cases x.cps.all (· < 128) <;> simp
  · refine wpAny_pyIter_ascii ha (pi_one (tk := s.toks) I _ (turn_str _ x t "str_ascii_iterator" (.inl rfl)) ?_ q)
    exact ⟨_, Heap.get?_push_size _ rfl, rfl, rfl⟩
  · refine wpAny_pyIter_wide ha (pi_one (tk := s.toks) I _ (turn_str _ x t "str_iterator" (.inr rfl)) ?_ q)
    exact ⟨_, Heap.get?_push_size _ rfl, rfl, rfl⟩
theorem si_sq (hK : Z.K = X.K) (ha : SE X Z W a₀ wa) : SI X Z W tg a₀ (fun σ S R E => wa σ S (fun x S1 => sqW x S1 (fun ds l => R ds l S1)) E) := by
  refine ⟨fun pins s τ H R I ⟨σ, S, Ra, E, er, sr, w, r, qe⟩ => ?_⟩
  refine thn (ha.run pins s τ H (fun v H1 => TK H H1 ∧ ∃ d S1, SR Z S1 H1 ∧ RD Z H1 d v ∧ sqW d S1 (fun ds l => Ra ds l S1)) I ⟨σ, S, _, E, er, sr, w, fun d v S1 H1 k1 sr1 rd1 w1 => ⟨k1, d, S1, sr1, rd1, w1⟩, qe⟩) fun u s1 ⟨v, H1, I1, rv, k1, d, S1, sr1, rd1, w1⟩ => ?_
  unfold sqW at w1
  split at w1
  · cases rd1 with
    | tup t rs =>
      cases rv
      exact it_tuple I1 (by rw [← hK]; exact t.sq) (r _ _ _ _ _ k1 sr1 (wlk_tuple hK t rs) w1)
  · cases rd1
    obtain ⟨t, rfl⟩ := rv
    exact it_str I1 (r _ _ _ _ _ k1 sr1 wlk_str w1.2)
  · rename_i a
    cases rd1
    cases rv
    split at w1
    · rename_i ds e
      have e' : rd S1 a = some ds := by unfold rd; rw [e]
      obtain ⟨vs, sq, rs⟩ := rdAt (K := X.K) sr1 e'
      exact it_list I1 sq (r _ _ _ _ _ k1 sr1 (wlk_list hK e') w1)
    · rename_i ds e
      have e' : rd S1 a = some ds := by unfold rd; rw [e]
      obtain ⟨vs, sq, rs⟩ := rdAt (K := X.K) sr1 e'
      exact it_list I1 sq (r _ _ _ _ _ k1 sr1 (wlk_list hK e') w1)
    · exact w1.elim
  · exact w1.elim
theorem si_rng (hg : Gl X "range") (hm : X.mg "range" = none) (hb : SE X Z W b₀ wb) (hs : starEach [b₀] X.env = [(false, eval b₀ X.env)]) : SI X Z W tg (.Call (.Name "range" p) [b₀] [] pos) (fun σ S R E => wb σ S (fun x S1 => match x with | .int j => -(2 ^ 62) ≤ j ∧ j < 2 ^ 62 ∧ R (rngD 0 j.toNat) (fun _ => True) S1 | _ => False) E) :=
  PI.imp (pi_range1 hg hm (pa_cons hb pa_nil hs) hs) fun τ H R ⟨σ, S, Ra, E, er, sr, w, r, qe⟩ => by
    refine ⟨σ, S, _, E, er, sr, w, fun d v S1 H1 k1 sr1 rd1 w1 => ?_, qe⟩
    dsimp only at w1
    split at w1
    · cases rd1
      exact ⟨_, rfl, w1.1, w1.2.1, r _ _ _ _ _ k1 sr1 wlk_rng w1.2.2⟩
    · exact w1.elim
theorem si_rng2 (hg : Gl X "range") (hm : X.mg "range" = none) (ha : SE X Z W a₀ wa) (hb : SE X Z W b₀ wb) (hs : starEach [a₀, b₀] X.env = [(false, eval a₀ X.env), (false, eval b₀ X.env)]) (hs2 : starEach [b₀] X.env = [(false, eval b₀ X.env)]) : SI X Z W tg (.Call (.Name "range" p) [a₀, b₀] [] pos)
    (fun σ S R E => wa σ S (fun x S1 => wb σ S1 (fun y S2 => match x, y with | .int i, .int j => -(2 ^ 62) ≤ i ∧ i < 2 ^ 62 ∧ -(2 ^ 62) ≤ j ∧ j < 2 ^ 62 ∧ R (rngD i (j - i).toNat) (fun _ => True) S2 | _, _ => False) E) E) :=
  PI.imp (pi_range2 hg hm (pa_cons ha (pa_cons hb pa_nil hs2) (by rw [hs, hs2])) hs hs2) fun τ H R ⟨σ, S, Ra, E, er, sr, w, r, qe⟩ => by
    refine two_ok (R := fun x y H2 => ∃ i j : Int, ([x, y] : List V) = [.int i, .int j] ∧ (-(2 ^ 62) ≤ i ∧ i < 2 ^ 62 ∧ -(2 ^ 62) ≤ j ∧ j < 2 ^ 62) ∧ R (L2.Itr i (j - i).toNat) H2) er sr w qe fun {S2 H2 x y v u} k sr' rx ry h => ?_
    split at h
    · cases rx; cases ry
      exact ⟨_, _, rfl, ⟨h.1, h.2.1, h.2.2.1, h.2.2.2.1⟩, r _ _ _ _ _ k sr' wlk_rng h.2.2.2.2⟩
    · exact h.elim
end
end Mini
end L2
/-! Mini, part J: statements -/
namespace L2
namespace Mini
open PySem PySem.Spec PyProof.Rows
abbrev WS0 := En → EX → Env → Sto → Prop
/-- the ends, over the abstract heap -/
structure KD (Z : Nm) (H : Hp) (K : En) (D : Ends) : Prop where
  nx : ∀ σ S τ H', TK H H' → ER Z H' σ τ → SR Z S H' → K.nx σ S → D.nx τ H'
  rt : Kq Z H K.rt D.rt
  bk : ∀ σ S τ H', TK H H' → ER Z H' σ τ → SR Z S H' → K.bk σ S → D.bk τ H'
  ct : ∀ σ S τ H', TK H H' → ER Z H' σ τ → SR Z S H' → K.ct σ S → D.ct τ H'
theorem KD.keep {Z : Nm} {H H' : Hp} {K : En} {D : Ends} (d : KD Z H K D) (k : TK H H') : KD Z H' K D :=
  ⟨fun σ S τ H2 k2 => d.nx σ S τ H2 (k.trans k2), d.rt.keep k, fun σ S τ H2 k2 => d.bk σ S τ H2 (k.trans k2), fun σ S τ H2 k2 => d.ct σ S τ H2 (k.trans k2)⟩
def KX (Z : Nm) (W : WX) (H : Hp) (Xf : EX) : Prop := ∀ x cls dd σ S τ H', TK H H' → ER Z H' σ τ → SR Z S H' → XR Z H' x cls dd → Xf x σ S → W cls dd τ H'
theorem KX.keep {Z : Nm} {W : WX} {H H' : Hp} {Xf : EX} (d : KX Z W H Xf) (k : TK H H') : KX Z W H' Xf := fun x c dd σ S τ H2 k2 => d x c dd σ S τ H2 (k.trans k2)
theorem KX.kx {Z : Nm} {W : WX} {H : Hp} {Xf : EX} {σ : Env} {τ : St} (d : KX Z W H Xf) (er : ER Z H σ τ) : Kx Z W τ H (fun x S1 => Xf x σ S1) := fun x c dd S' H' k sr xr h => d x c dd σ S' τ H' k (er.keep k) sr xr h
def TSx (Z : Nm) (W : WX) (w : WS0) : TS := fun D τ H => ∃ σ S K Xf, ER Z H σ τ ∧ SR Z S H ∧ w K Xf σ S ∧ KD Z H K D ∧ KX Z W H Xf
def SS (X : Cx) (Z : Nm) (W : WX) (st : Stmt) (w : WS0) : Prop := PS X st (TSx Z W w)
def SSs (X : Cx) (Z : Nm) (W : WX) (st : List Stmt) (w : WS0) : Prop := PSs X st (TSx Z W w)
theorem PS.imp {X : Cx} {st : Stmt} {t t' : TS} (h : PS X st t) (i : ∀ D τ H, t' D τ H → t D τ H) : PS X st t' := ⟨fun pins s σ H D I w => h.run pins s σ H D I (i _ _ _ w)⟩
theorem PSs.imp {X : Cx} {st : List Stmt} {t t' : TS} (h : PSs X st t) (i : ∀ D τ H, t' D τ H → t D τ H) : PSs X st t' := ⟨fun pins s σ H D I w => h.run pins s σ H D I (i _ _ _ w)⟩
/-! ### targets -/
def gIs : List Nat → TGs
  | [] => gNil
  | i :: is => gCons (gName i) (gIs is)
def gTg (K : PySem.W.Frag) : Tg → TG
  | .nm i => gName i
  | .tp is => gTup K is.length (gIs is)
section
variable {X : Cx} {Z : Nm} {G : Gam} {k : Nat} {W : WX} {a₀ b₀ c₀ e₀ tg : Expr} {es₀ : List Expr} {wa wb wc : WE0} {ws : Env → Sto → (List D → Sto → Prop) → QX → Prop} {pos apos p : Pos}
theorem gIs_ok {Q : St → Hp → Prop} {H : Hp} : ∀ {is : List Nat} {ds : List D} {vs : List V} {σ : Env} {τ : St}, RDs Z H ds vs → ds.length = is.length → ER Z H σ τ →
    (∀ τ', ER Z H ((is.zip ds).foldl (fun s p => s.set p.1 (some p.2)) σ) τ' → Q τ' H) → gIs is vs τ H Q
  | [], [], _, σ, τ, rs, _, er, q => by cases rs; exact ⟨rfl, q τ er⟩
  | i :: is, d :: ds, _, σ, τ, rs, hl, er, q => by
    cases rs with
    | cons r rs => exact ⟨_, _, rfl, gIs_ok rs (Nat.succ.inj hl) (er.set i r) q⟩
  | [], _ :: _, _, _, _, _, hl, _, _ => by cases hl
  | _ :: _, [], _, _, _, _, hl, _, _ => by cases hl
theorem gTg_ok {Q : St → Hp → Prop} {H : Hp} {t : Tg} {d : D} {v : V} {σ σ' : Env} {τ : St} (hK : Z.K = X.K) (h : tgW t d σ = some σ') (r : RD Z H d v) (er : ER Z H σ τ) (q : ∀ τ', ER Z H σ' τ' → Q τ' H) : gTg X.K t v τ H Q := by
  cases t with
  | nm i => cases h; exact q _ (er.set i r)
  | tp is =>
    unfold tgW at h
    dsimp only at h
    split at h
    · rename_i ds
      split at h
      · rename_i hl
        cases h
        cases r with
        | tup t rs => exact ⟨_, _, rfl, by rw [← hK]; exact t.sq, by rw [← rs.length]; exact hl, gIs_ok rs hl er q⟩
      · cases h
    · cases h
/-- (a, b, ..) = a list of that length -/
def gLst (K : PySem.W.Frag) (n : Nat) (t : TGs) : TG := fun v σ H Q => ∃ a xs, v = .ref a ∧ SqL K H a xs ∧ xs.length = n ∧ t xs σ H Q
theorem pg_lst {es : List Expr} {k : Nat} {t : TGs} {n : Nat} (hc : X.calm = true) (h : PGs X es t) (hn : (assignEach es X.env).length = n) (hst : (assignEach es X.env).findIdx? (·.1) = none) : PG X (.Tuple es k pos) (gLst X.K n t) := by
  refine ⟨fun pins s σ H v u Q I r hw => ?_⟩
  obtain ⟨a, xs, e1, hq, hl, hw⟩ := hw
  subst e1
  cases r
  obtain ⟨its, rv, ht, hz⟩ := I.list hq
  have hl' : (assignEach es X.env).length = its.toArray.size := by simp [hn, ← hl, rv.length]
  rw [assign_Tuple]
  refine wpAny_bind (wpAny_standAt ?_)
  unfold unpack
  rw [hl', hst]
  refine wpAny_bind (wpAny_holding (PySem.W.kun_itemsOf (I.ok.hd hc) ht.isList fun h' hx => ?_))
  have I1 : Inv X pins σ H { s with heap := h' } := I.kept (t' := s.toks) fun b o e => hx b o (Nat.ne_of_lt (Heap.lt_size e)) e
  exact h.run pins _ σ H xs _ Q I1 (by simpa using rv) hw
theorem pgs_names {is : List Nat} {es : List Expr} (h : PGs X es (gIs is)) (hc : X.calm = true) {kk : Nat} (hn : (assignEach es X.env).length = is.length) (hst : (assignEach es X.env).findIdx? (·.1) = none) : PG X (.Tuple es kk pos) (gTg X.K (.tp is)) := pg_tup hc h hn hst
theorem tg_nil : PGs X [] (gIs []) := pgs_nil
theorem tg_cons {i : Nat} {is : List Nat} {x : Str} {es : List Expr} (hN : X.N.Nodup) (hi : X.N[i]? = some x) (hx : Loc X.env.scope x) (hf : X.fn x = true ∨ X.env.scope.names.lookup x = some .local) (h : PGs X es (gIs is))
    (hs : (assignEach (.Name x p :: es) X.env).map (·.2) = assign (.Name x p) X.env :: (assignEach es X.env).map (·.2)) : PGs X (.Name x p :: es) (gIs (i :: is)) := pgs_cons (pg_name hN hi hx hf) h hs
theorem tg_name {i : Nat} {x : Str} (hN : X.N.Nodup) (hi : X.N[i]? = some x) (hx : Loc X.env.scope x) (hf : X.fn x = true ∨ X.env.scope.names.lookup x = some .local) : PG X (.Name x p) (gTg X.K (.nm i)) := pg_name hN hi hx hf
/-! ### blocks -/
theorem ss_nil : SSs X Z W [] (fun K _ σ S => K.nx σ S) := PSs.imp pss_nil fun D τ H ⟨σ, S, K, Xf, er, sr, w, kd, kx⟩ => kd.nx σ S τ H (TK.refl H) er sr w
theorem ss_cons {s : Stmt} {ss : List Stmt} {w1 w2 : WS0} (h1 : SS X Z W s w1) (h2 : SSs X Z W ss w2) : SSs X Z W (s :: ss) (fun K Xf σ S => w1 { K with nx := fun σ' S' => w2 K Xf σ' S' } Xf σ S) :=
  PSs.imp (pss_cons h1 h2) fun D τ H ⟨σ, S, K, Xf, er, sr, w, kd, kx⟩ => ⟨σ, S, _, Xf, er, sr, w, ⟨fun σ2 S2 τ2 H2 k2 er2 sr2 w2 => ⟨σ2, S2, K, Xf, er2, sr2, w2, kd.keep k2, kx.keep k2⟩, kd.rt, kd.bk, kd.ct⟩, kx⟩
theorem ss_pass : SS X Z W (.Pass pos) (fun K _ σ S => K.nx σ S) := PS.imp ps_pass fun D τ H ⟨σ, S, K, Xf, er, sr, w, kd, kx⟩ => kd.nx σ S τ H (TK.refl H) er sr w
theorem ss_brk : SS X Z W (.Break pos) (fun K _ σ S => K.bk σ S) := PS.imp ps_break fun D τ H ⟨σ, S, K, Xf, er, sr, w, kd, kx⟩ => kd.bk σ S τ H (TK.refl H) er sr w
theorem ss_cnt : SS X Z W (.Continue pos) (fun K _ σ S => K.ct σ S) := PS.imp ps_continue fun D τ H ⟨σ, S, K, Xf, er, sr, w, kd, kx⟩ => kd.ct σ S τ H (TK.refl H) er sr w
theorem ss_ret (ha : SE X Z W a₀ wa) : SS X Z W (.Return (some a₀) pos) (fun K Xf σ S => wa σ S K.rt (fun x S1 => Xf x σ S1)) :=
  PS.imp (ps_ret ha) fun D τ H ⟨σ, S, K, Xf, er, sr, w, kd, kx⟩ => ⟨σ, S, _, _, er, sr, w, kd.rt, kx.kx er⟩
theorem ss_retN : SS X Z W (.Return none pos) (fun K _ σ S => K.rt .non S) := PS.imp ps_retN fun D τ H ⟨σ, S, K, Xf, er, sr, w, kd, kx⟩ => kd.rt .non .non S H (TK.refl H) sr .non w
theorem ss_ex (ha : SE X Z W a₀ wa) (hs : swapsWith a₀ none pos.line X.env = pure false) : SS X Z W (.Expr a₀ pos) (fun K Xf σ S => wa σ S (fun _ S1 => K.nx σ S1) (fun x S1 => Xf x σ S1)) :=
  PS.imp (ps_expr ha hs) fun D τ H ⟨σ, S, K, Xf, er, sr, w, kd, kx⟩ => ⟨σ, S, _, _, er, sr, w, fun d v S1 H1 k1 sr1 _ w1 => kd.nx σ S1 τ H1 k1 (er.keep k1) sr1 w1, kx.kx er⟩
theorem ss_set {i : Nat} {x : Str} (hN : X.N.Nodup) (hi : X.N[i]? = some x) (hx : Loc X.env.scope x) (hf : X.fn x = true ∨ X.env.scope.names.lookup x = some .local) (ha : SE X Z W a₀ wa) (hs : swapsWith a₀ (some (.Name x p)) pos.line X.env = pure false) :
    SS X Z W (.Assign [.Name x p] a₀ pos) (fun K Xf σ S => wa σ S (fun d S1 => K.nx (σ.set i (some d)) S1) (fun x S1 => Xf x σ S1)) :=
  PS.imp (ps_set hN hi hx ha hs hf) fun D τ H ⟨σ, S, K, Xf, er, sr, w, kd, kx⟩ => ⟨σ, S, _, _, er, sr, w, fun d v S1 H1 k1 sr1 r w1 => kd.nx _ S1 _ H1 k1 ((er.keep k1).set i r) sr1 w1, kx.kx er⟩
theorem ss_unp {is : List Nat} {es : List Expr} {kk : Nat} {tp : Pos} (hK : Z.K = X.K) (hg : PG X (.Tuple es kk tp) (gTg X.K (.tp is))) (ha : SE X Z W a₀ wa) (hs : swapsWithSole [.Tuple es kk tp] a₀ pos.line X.env = pure false) (hw : swappedStores [.Tuple es kk tp] a₀ X.env = pure none)
    (h1 : (assignEach [.Tuple es kk tp] X.env).map (·.2) = [assign (.Tuple es kk tp) X.env]) :
    SS X Z W (.Assign [.Tuple es kk tp] a₀ pos) (fun K Xf σ S => wa σ S (fun d S1 => match tgW (.tp is) d σ with | some σ' => K.nx σ' S1 | none => False) (fun x S1 => Xf x σ S1)) :=
  PS.imp (ps_asg ha hg hs hw h1) fun D τ H ⟨σ, S, K, Xf, er, sr, w, kd, kx⟩ => ⟨σ, S, _, _, er, sr, w, fun d v S1 H1 k1 sr1 r w1 => by
    dsimp only at w1
    split at w1
    · rename_i σ' e
      exact gTg_ok hK e r (er.keep k1) fun τ' er' => kd.nx _ S1 _ H1 k1 er' sr1 w1
    · exact w1.elim, kx.kx er⟩
theorem ss_unpl {is : List Nat} {es : List Expr} {kk : Nat} {tp : Pos} (hK : Z.K = X.K) (hg : PG X (.Tuple es kk tp) (gLst X.K is.length (gIs is))) (ha : SE X Z W a₀ wa) (hs : swapsWithSole [.Tuple es kk tp] a₀ pos.line X.env = pure false) (hw : swappedStores [.Tuple es kk tp] a₀ X.env = pure none)
    (h1 : (assignEach [.Tuple es kk tp] X.env).map (·.2) = [assign (.Tuple es kk tp) X.env]) :
    SS X Z W (.Assign [.Tuple es kk tp] a₀ pos) (fun K Xf σ S => wa σ S (fun d S1 => match d with | .ref a => (match rd S1 a with | some ds => (match tgW (.tp is) (.tup ds) σ with | some σ' => K.nx σ' S1 | none => False) | none => False) | _ => False) (fun x S1 => Xf x σ S1)) :=
  PS.imp (ps_asg ha hg hs hw h1) fun D τ H ⟨σ, S, K, Xf, er, sr, w, kd, kx⟩ => ⟨σ, S, _, _, er, sr, w, fun d v S1 H1 k1 sr1 r w1 => by
    dsimp only at w1
    split at w1
    · rename_i a
      split at w1
      · rename_i ds e
        split at w1
        · rename_i σ' e2
          obtain ⟨vs, sq, rs⟩ := rdAt (K := X.K) sr1 e
          unfold tgW at e2
          dsimp only at e2
          split at e2
          · rename_i hl
            cases e2
            cases r
            exact ⟨_, _, rfl, sq, by rw [← rs.length]; exact hl, gIs_ok rs hl (er.keep k1) fun τ' er' => kd.nx _ S1 _ H1 k1 er' sr1 w1⟩
          · cases e2
        · exact w1.elim
      · exact w1.elim
    · exact w1.elim, kx.kx er⟩
def rSetAny (X : Cx) : TSet := fun o i v H Q => ∃ t, PSet X t ∧ t o i v H Q
theorem rSetAny.ok (X : Cx) : PSet X (rSetAny X) := fun pins s σ H o i v ov iv u Q I ro ri rv ⟨t, h, q⟩ => h pins s σ H o i v ov iv u Q I ro ri rv q
theorem setix_ok (hu : X.A.units + 1 < cLine) {H : Hp} {S : Sto} {o i v : D} {vo vi vv : V} {Qa : Sto → Prop} {Q : Hp → Prop} (sr : SR Z S H) (ro : RD Z H o vo) (ri : RD Z H i vi) (rv : RD Z H v vv) (h : setixW o i v S Qa)
    (q : ∀ S' H', TK H H' → SR Z S' H' → Qa S' → Q H') : rSetAny X vo vi vv H Q := by
  unfold setixW at h
  split at h
  · rename_i a
    cases ro
    split at h
    · rename_i ds kk e
      cases ri
      obtain ⟨j, ej, h⟩ := h
      obtain ⟨vs, hq, rs⟩ := lstAt sr e
      have tk : TK H (upd H a (.lst (vs.set j vv))) := TK.mut hq True.intro
      refine ⟨_, set_list, a, vs, kk, j, rfl, rfl, hq, by rw [← rs.length]; exact ej, ?_⟩
      exact q _ _ tk (sr.put (c := .lst (ds.set j v)) tk ⟨_, upd_same, (rs.set rv j).keep tk⟩) h
    · rename_i kvs kk e
      cases ri
      obtain ⟨gs, hq, rs⟩ := sr a _ e
      have tk : TK H (upd H a (.dK (putK gs (kyS (.inl kk)) vv))) := TK.mut hq True.intro
      refine ⟨_, set_dict hu, a, _, rfl, DPut.k (k := kyS (.inl kk)) hq (by rw [← rs.length]; exact h.1), ?_⟩
      exact q _ _ tk (sr.put (c := .dct (dput kvs (.inl kk) v)) tk ⟨_, upd_same, (rs.put rv (.inl kk)).keep tk⟩) h.2
    · rename_i kvs l e
      cases ri
      obtain ⟨gs, hq, rs⟩ := sr a _ e
      have tk : TK H (upd H a (.dK (putK gs (kyS (.inr l)) vv))) := TK.mut hq True.intro
      refine ⟨_, set_dict hu, a, _, rfl, DPut.k (k := kyS (.inr l)) hq (by rw [← rs.length]; exact h.1), ?_⟩
      exact q _ _ tk (sr.put (c := .dct (dput kvs (.inr l) v)) tk ⟨_, upd_same, (rs.put rv (.inr l)).keep tk⟩) h.2
    · exact h.elim
  · exact h.elim
theorem ss_setix {tp : Pos} (hu : X.A.units + 1 < cLine) (hv : SE X Z W a₀ wa) (ho : SE X Z W b₀ wb) (hi : SE X Z W c₀ wc)
    (ha : ∀ v, assign (.Subscript b₀ c₀ tp) X.env v = (do
      let ov ← holding [v] (eval b₀ X.env)
      let iv ← holding [v, ov] (eval c₀ X.env)
      standAt tp
      holding [v, ov, iv] (setItem ov iv v)
      release [v, ov, iv] []))
    (hs : swapsWithSole [.Subscript b₀ c₀ tp] a₀ pos.line X.env = pure false) (hw : swappedStores [.Subscript b₀ c₀ tp] a₀ X.env = pure none) (h1 : (assignEach [.Subscript b₀ c₀ tp] X.env).map (·.2) = [assign (.Subscript b₀ c₀ tp) X.env]) :
    SS X Z W (.Assign [.Subscript b₀ c₀ tp] a₀ pos) (fun K Xf σ S => wa σ S (fun v S1 => wb σ S1 (fun x S2 => wc σ S2 (fun y S3 => setixW x y v S3 (fun S4 => K.nx σ S4)) (fun x S1 => Xf x σ S1)) (fun x S1 => Xf x σ S1)) (fun x S1 => Xf x σ S1)) :=
  PS.imp (ps_asg hv (pg_sub ho hi (rSetAny.ok X) ha) hs hw h1) fun D τ H ⟨σ, S, K, Xf, er, sr, w, kd, kx⟩ => by
    have qe := kx.kx er
    refine ⟨σ, S, _, _, er, sr, w, fun dv v S1 H1 k1 sr1 rv w1 => ?_, qe⟩
    refine ⟨σ, S1, _, _, er.keep k1, sr1, w1, fun dx x S2 H2 k2 sr2 rx w2 => ?_, qe.keep k1⟩
    refine ⟨σ, S2, _, _, (er.keep k1).keep k2, sr2, w2, fun dy y S3 H3 k3 sr3 ry w3 => ?_, (qe.keep k1).keep k2⟩
    refine setix_ok hu sr3 (rx.keep k3) ry ((rv.keep k2).keep k3) w3 fun S4 H4 k4 sr4 w4 => ?_
    have kk := ((k1.trans k2).trans k3).trans k4
    exact kd.nx σ S4 τ H4 kk (er.keep kk) sr4 w4
theorem ss_aug {i : Nat} {x : Str} {op : Bop} {o : Operator} (hK : Z.K = X.K) (hN : X.N.Nodup) (hi : X.N[i]? = some x) (hx : Loc X.env.scope x) (hf : X.fn x = true ∨ X.env.scope.names.lookup x = some .local) (ha : SE X Z W a₀ wa) (ho : o = bopOf op) :
    SS X Z W (.AugAssign (.Name x p) o a₀ pos) (fun K Xf σ S => match σ.get i with | some x => wa σ S (fun y S1 => augW op x y S1 (fun z S2 => K.nx (σ.set i (some z)) S2)) (fun x S1 => Xf x σ S1) | none => False) := by
  subst ho
  refine PS.imp (ps_aug hN hi hx ha (rAny.ok X (inplaceOp (bopOf op))) hf) fun D τ H ⟨σ, S, K, Xf, er, sr, w, kd, kx⟩ => ?_
  dsimp only at w
  split at w
  · rename_i d e
    obtain ⟨v, h1, h2⟩ := er.2 i d e
    refine ⟨v, h1, σ, S, _, _, er, sr, w, fun dy y S1 H1 k1 sr1 ry w1 => ?_, kx.kx er⟩
    refine aug_ok hK sr1 (h2.keep k1) ry w1 fun dz z S2 H2 k2 sr2 rz w2 => ?_
    exact kd.nx _ S2 _ H2 (k1.trans k2) (((er.keep k1).keep k2).set i rz) sr2 w2
  · exact w.elim
theorem ss_setat {f : Nat} {x : Str} (F : FX X Z G k) (hf : f < Z.nf) (hx : x = Z.fld f) (hv : SE X Z W a₀ wa) (ho : SE X Z W b₀ wb) (hs : swapsWith a₀ (some (.Attribute b₀ x p)) pos.line X.env = pure false) :
    SS X Z W (.Assign [.Attribute b₀ x p] a₀ pos) (fun K Xf σ S => wa σ S (fun v S1 => wb σ S1 (fun x S2 => match x with | .ref p => (match S2 p with | some (.ins c fs) => fs.length < 1000 ∧ K.nx σ (S2.upd p (.ins c (fput f v fs))) | _ => False) | _ => False) (fun x S1 => Xf x σ S1)) (fun x S1 => Xf x σ S1)) := by
  subst hx
  refine PS.imp (ps_fld ho hv hs) fun D τ H ⟨σ, S, K, Xf, er, sr, w, kd, kx⟩ => ?_
  have qe := kx.kx er
  refine ⟨σ, S, _, _, er, sr, w, fun dv v S1 H1 k1 sr1 rv w1 => ?_, qe⟩
  refine ⟨σ, S1, _, _, er.keep k1, sr1, w1, fun dx x S2 H2 k2 sr2 rx w2 => ?_, qe.keep k1⟩
  dsimp only at w2
  split at w2
  · rename_i a
    cases rx
    split at w2
    · rename_i c fs e
      obtain ⟨hc, dx, gs, hq, rf⟩ := insAt sr2 e
      have tk : TK H2 (upd H2 a (.ins (Z.cla c) dx (putF (Z.fld f) v gs))) := TK.mut hq True.intro
      refine ⟨a, _, dx, gs, rfl, hq, F.cls c hc, F.na c f hc hf, by rw [← rf.length]; exact w2.1, ?_⟩
      exact kd.nx σ _ τ _ ((k1.trans k2).trans tk) (((er.keep k1).keep k2).keep tk) (sr2.put (c := .ins c (fput f dv fs)) tk ⟨hc, dx, _, upd_same, (rf.put f hf (rv.keep k2)).keep tk⟩) w2.2
    · exact w2.elim
  · exact w2.elim
/-- o.f as a target -/
def gAtt (K : PySem.W.Frag) (to : TE) (f : Str) : TG := fun v σ H Q => to σ H fun x H1 => ∃ a C dx fs, x = .ref a ∧ H1 a = some (.ins C dx fs) ∧ Cls K C ∧ NoAttr K C f ∧ fs.length < 1000 ∧ Q σ (upd H1 a (.ins C dx (putF f v fs)))
theorem pg_att {o : Expr} {f : Str} {to : TE} (ho : PE X o to) : PG X (.Attribute o f pos) (gAtt X.K to f) := by
  refine ⟨fun pins s σ H v u Q I r h => ?_⟩
  rw [assign_Attribute]
  refine wpAny_bind (wpAny_holding (thn (ho.run pins s σ H _ I h) fun ov s1 ⟨x, H1, I1, rx, a, C, dx, fs, ex, ea, c, n, l, q⟩ => ?_))
  subst ex
  obtain rfl : ov = Value.ref a := rx
  refine wpAny_bind (wpAny_standAt (wpAny_bind (wpAny_holding (setattr_ok I1 ea c n l r fun s2 I2 => wpAny_release ⟨σ, _, I2, q⟩))))
theorem att_put {f : Nat} {d : D} {v : V} {x : D} {u : V} {S : Sto} {H : Hp} {Qa : Sto → Prop} {Q : Hp → Prop} (F : FX X Z G k) (hf : f < Z.nf) (sr : SR Z S H) (rx : RD Z H x u) (rv : RD Z H d v) (h : putatW x f d S Qa) (q : ∀ S' H', TK H H' → SR Z S' H' → Qa S' → Q H') :
    ∃ a C dx fs, u = .ref a ∧ H a = some (.ins C dx fs) ∧ Cls X.K C ∧ NoAttr X.K C (Z.fld f) ∧ fs.length < 1000 ∧ Q (upd H a (.ins C dx (putF (Z.fld f) v fs))) := by
  unfold putatW at h
  split at h
  · rename_i a
    cases rx
    split at h
    · rename_i c fs e
      obtain ⟨hc, dx, gs, hq, rf⟩ := insAt sr e
      have tk : TK H (upd H a (.ins (Z.cla c) dx (putF (Z.fld f) v gs))) := TK.mut hq True.intro
      exact ⟨a, _, dx, gs, rfl, hq, F.cls c hc, F.na c f hc hf, by rw [← rf.length]; exact h.1, q _ _ tk (sr.put (c := .ins c (fput f d fs)) tk ⟨hc, dx, _, upd_same, (rf.put f hf rv).keep tk⟩) h.2⟩
    · exact h.elim
  · exact h.elim
theorem ss_unpa {f g : Nat} {x y : Str} {kk : Nat} {p1 p2 tp : Pos} (F : FX X Z G k) (hc : X.calm = true) (hf : f < Z.nf) (hg : g < Z.nf) (hx : x = Z.fld f) (hy : y = Z.fld g) (ha : SE X Z W a₀ wa) (ho : SE X Z W b₀ wb) (ho2 : SE X Z W c₀ wc)
    (hs : swapsWithSole [.Tuple [.Attribute b₀ x p1, .Attribute c₀ y p2] kk tp] a₀ pos.line X.env = pure false) (hw : swappedStores [.Tuple [.Attribute b₀ x p1, .Attribute c₀ y p2] kk tp] a₀ X.env = pure none)
    (h1 : (assignEach [.Tuple [.Attribute b₀ x p1, .Attribute c₀ y p2] kk tp] X.env).map (·.2) = [assign (.Tuple [.Attribute b₀ x p1, .Attribute c₀ y p2] kk tp) X.env]) (hn : (assignEach [.Attribute b₀ x p1, .Attribute c₀ y p2] X.env).length = 2) (hst : (assignEach [.Attribute b₀ x p1, .Attribute c₀ y p2] X.env).findIdx? (·.1) = none)
    (h2 : (assignEach [.Attribute b₀ x p1, .Attribute c₀ y p2] X.env).map (·.2) = assign (.Attribute b₀ x p1) X.env :: (assignEach [.Attribute c₀ y p2] X.env).map (·.2)) (h3 : (assignEach [.Attribute c₀ y p2] X.env).map (·.2) = assign (.Attribute c₀ y p2) X.env :: (assignEach [] X.env).map (·.2)) :
    SS X Z W (.Assign [.Tuple [.Attribute b₀ x p1, .Attribute c₀ y p2] kk tp] a₀ pos) (fun K Xf σ S => wa σ S (fun d S1 => match d with | .tup [a, b] => wb σ S1 (fun x S2 => putatW x f a S2 (fun S3 => wc σ S3 (fun y S4 => putatW y g b S4 (fun S5 => K.nx σ S5)) (fun x S1 => Xf x σ S1))) (fun x S1 => Xf x σ S1) | _ => False) (fun x S1 => Xf x σ S1)) := by
  subst hx hy
  refine PS.imp (ps_asg ha (pg_tup (n := 2) hc (pgs_cons (pg_att ho) (pgs_cons (pg_att ho2) pgs_nil h3) h2) hn hst) hs hw h1) fun D τ H ⟨σ, S, K, Xf, er, sr, w, kd, kx⟩ => ?_
  have qe := kx.kx er
  refine ⟨σ, S, _, _, er, sr, w, fun d v S1 H1 k1 sr1 rv w1 => ?_, qe⟩
  dsimp only at w1
  split at w1
  · rename_i da db
    cases rv with
    | tup t rs =>
      cases rs with
      | cons ra rs =>
        cases rs with
        | cons rb rs =>
          cases rs
          refine ⟨_, _, rfl, by rw [← F.zk]; exact t.sq, rfl, _, _, rfl, ?_⟩
          refine ⟨σ, S1, _, _, er.keep k1, sr1, w1, fun dx x S2 H2 k2 sr2 rx w2 => ?_, qe.keep k1⟩
          refine att_put (Q := fun H' => gCons (gAtt X.K (TEx Z W wc) (Z.fld g)) gNil [_] τ H' D.nx) F hf sr2 rx (ra.keep k2) w2 fun S3 H3 k3 sr3 w3 => ?_
          have kk := (k1.trans k2).trans k3
          refine ⟨_, _, rfl, σ, S3, _, _, er.keep kk, sr3, w3, fun dy y S4 H4 k4 sr4 ry w4 => ?_, qe.keep kk⟩
          refine att_put (Q := fun H' => gNil [] τ H' D.nx) F hg sr4 ry ((((rb.keep k2).keep k3).keep k4)) w4 fun S5 H5 k5 sr5 w5 => ?_
          have kk2 := (kk.trans k4).trans k5
          exact ⟨rfl, kd.nx σ S5 τ H5 kk2 (er.keep kk2) sr5 w5⟩
  · exact w1.elim
theorem ss_augat {f : Nat} {x : Str} {op : Bop} {o : Operator} (F : FX X Z G k) (hf : f < Z.nf) (hx : x = Z.fld f) (hv : SE X Z W a₀ wa) (ho : SE X Z W b₀ wb) (hop : o = bopOf op) :
    SS X Z W (.AugAssign (.Attribute b₀ x p) o a₀ pos) (fun K Xf σ S => wb σ S (fun x S1 => match x with | .ref p => (match S1 p with | some (.ins c fs) => (match fget fs f with | some d => wa σ S1 (fun y S2 => augW op d y S2 (fun z S3 => (match S3 p with | some (.ins c' fs') => c' = c ∧ fs'.length < 1000 ∧ K.nx σ (S3.upd p (.ins c' (fput f z fs'))) | _ => False))) (fun x S1 => Xf x σ S1) | none => False) | _ => False) | _ => False) (fun x S1 => Xf x σ S1)) := by
  subst hx hop
  refine PS.imp (ps_fldaug ho hv (rAny.ok X (inplaceOp (bopOf op)))) fun D τ H ⟨σ, S, K, Xf, er, sr, w, kd, kx⟩ => ?_
  have qe := kx.kx er
  refine ⟨σ, S, _, _, er, sr, w, fun dx x S1 H1 k1 sr1 rx w1 => ?_, qe⟩
  dsimp only at w1
  split at w1
  · rename_i a
    cases rx
    split at w1
    · rename_i c fs e
      obtain ⟨hc, dx, gs, hq, rf⟩ := insAt sr1 e
      split at w1
      · rename_i d ef
        obtain ⟨v, hv1, hv2⟩ := rf.get f hf ef
        refine ⟨a, _, dx, gs, v, rfl, hq, F.cls c hc, F.na c f hc hf, hv1, ?_⟩
        refine ⟨σ, S1, _, _, er.keep k1, sr1, w1, fun dy y S2 H2 k2 sr2 ry w2 => ?_, qe.keep k1⟩
        refine aug_ok F.zk sr2 (hv2.keep k2) ry w2 fun dz z S3 H3 k3 sr3 rz w3 => ?_
        split at w3
        · rename_i c' fs' e'
          obtain ⟨rfl, hl, w3⟩ := w3
          obtain ⟨hc', dx', gs', hq', rf'⟩ := insAt sr3 e'
          have tk : TK H3 (upd H3 a (.ins (Z.cla c') dx' (putF (Z.fld f) z gs'))) := TK.mut hq' True.intro
          refine ⟨dx', gs', hq', by rw [← rf'.length]; exact hl, ?_⟩
          have kk := (k1.trans k2).trans k3
          exact kd.nx σ _ τ _ (kk.trans tk) ((er.keep kk).keep tk) (sr3.put (c := .ins c' (fput f dz fs')) tk ⟨hc', dx', _, upd_same, (rf'.put f hf rz).keep tk⟩) w3
        · exact w3.elim
      · exact w1.elim
    · exact w1.elim
  · exact w1.elim
theorem ss_ife {s1 s2 : List Stmt} {w1 w2 : WS0} (hc : SEt X Z W c₀ (toT wc)) (h1 : SSs X Z W s1 w1) (h2 : SSs X Z W s2 w2) :
    SS X Z W (.If c₀ s1 s2 pos) (fun K Xf σ S => toT wc σ S (fun r S1 => if r = true then w1 K Xf σ S1 else w2 K Xf σ S1) (fun x S1 => Xf x σ S1)) :=
  PS.imp (ps_if hc h1 h2) fun D τ H ⟨σ, S, K, Xf, er, sr, w, kd, kx⟩ => by
    refine ⟨σ, S, _, _, er, sr, w, fun r S1 H1 k1 sr1 w1 => ?_, kx.kx er⟩
    dsimp only at w1 ⊢
    cases r with
    | true => exact ⟨σ, S1, K, Xf, er.keep k1, sr1, w1, kd.keep k1, kx.keep k1⟩
    | false => exact ⟨σ, S1, K, Xf, er.keep k1, sr1, w1, kd.keep k1, kx.keep k1⟩
theorem ss_whl {body : List Stmt} {wb : WS0} (hp : PassesOwn (model X.prog X.w) X.A X.env X.xe) (hc : SEt X Z W c₀ (toT wc)) (hb : SSs X Z W body wb) :
    SS X Z W (.While c₀ body [] pos) (fun K Xf σ S => whlW (fun σ S Q => toT wc σ S Q (fun x S1 => Xf x σ S1)) (fun K σ S => wb K Xf σ S) K σ S) :=
  PS.imp (ps_while hp hc hb) fun D τ H ⟨σ, S, K, Xf, er, sr, ⟨Wi, ⟨m0, w0⟩, turn⟩, kd, kx⟩ => by
    refine ⟨fun m τ H' => TK H H' ∧ ∃ σ S, ER Z H' σ τ ∧ SR Z S H' ∧ Wi m σ S, ⟨m0, TK.refl H, σ, S, er, sr, w0⟩, fun m τ1 H1 ⟨k1, σ1, S1, er1, sr1, w1⟩ => ?_⟩
    refine ⟨σ1, S1, _, _, er1, sr1, turn m σ1 S1 w1, fun r S2 H2 k2 sr2 w2 => ?_, (kx.keep k1).kx er1⟩
    dsimp only at w2 ⊢
    cases r with
    | false => exact kd.nx σ1 S2 τ1 H2 (k1.trans k2) (er1.keep k2) sr2 w2
    | true =>
      refine ⟨fun τ' H' => ∃ m', m' < m ∧ TK H H' ∧ ∃ σ S, ER Z H' σ τ' ∧ SR Z S H' ∧ Wi m' σ S, fun _ _ h => h, ?_⟩
      refine ⟨σ1, S2, _, Xf, er1.keep k2, sr2, w2, ?_, kx.keep (k1.trans k2)⟩
      have z : ∀ σ' S' τ' H', TK H2 H' → ER Z H' σ' τ' → SR Z S' H' → (∃ m', m' < m ∧ Wi m' σ' S') → ∃ m', m' < m ∧ TK H H' ∧ ∃ σ S, ER Z H' σ τ' ∧ SR Z S H' ∧ Wi m' σ S := fun σ' S' τ' H' k' er' sr' ⟨m', hm, w'⟩ => ⟨m', hm, (k1.trans k2).trans k', σ', S', er', sr', w'⟩
      exact ⟨z, (kd.keep (k1.trans k2)).rt, (kd.keep (k1.trans k2)).nx, z⟩
theorem ss_for {body : List Stmt} {iter : Expr} {wi : Env → Sto → (List D → (Sto → Prop) → Sto → Prop) → QX → Prop} {wb : WS0} {t : Tg} (hK : Z.K = X.K) (hp : PassesOwn (model X.prog X.w) X.A X.env X.xe) (hc : X.calm = true) (hi : SI X Z W tg iter wi)
    (hg : PG X tg (gTg X.K t)) (hb : SSs X Z W body wb) (hs : ∀ x, foldedSetIterable iter X.env x = pure x) :
    SS X Z W (.For tg iter body [] pos) (fun K Xf σ S => wi σ S (fun ds live S1 => forW live t (fun K σ S => wb K Xf σ S) K ds σ S1) (fun x S1 => Xf x σ S1)) :=
  PS.imp (ps_for hp hc hi hg hb hs) fun D τ H ⟨σ, S, K, Xf, er, sr, w, kd, kx⟩ => by
    refine ⟨σ, S, _, _, er, sr, w, fun ds live S0 H0 J k0 sr0 wk w0 => ?_, kx.kx er⟩
    refine ⟨fun i m τ H' => m = ds.length - i ∧ i ≤ ds.length ∧ TK H0 H' ∧ ∃ σ S, ER Z H' σ τ ∧ SR Z S H' ∧ forW live t (fun K σ S => wb K Xf σ S) K (ds.drop i) σ S, ⟨_, rfl, Nat.zero_le _, TK.refl _, σ, S0, er.keep k0, sr0, w0⟩, ?_⟩
    rintro i m τ1 H1 ⟨rfl, hi, k1, σ1, S1, er1, sr1, w1⟩
    by_cases hlt : i < ds.length
    · rw [List.drop_eq_getElem_cons hlt] at w1
      obtain ⟨lv, w1⟩ := w1
      refine .inr ⟨wk.go i S1 H1 k1 sr1 lv hlt, fun τ' H' => TK H0 H' ∧ ∃ σ S, ER Z H' σ τ' ∧ SR Z S H' ∧ forW live t (fun K σ S => wb K Xf σ S) K (ds.drop (i + 1)) σ S, fun τ' H' h => ⟨_, by omega, rfl, hlt, h.1, h.2⟩, fun x H2 y => ?_⟩
      obtain ⟨k2, sm, rx⟩ := wk.yld i S1 H1 x H2 _ k1 sr1 lv (List.getElem?_eq_getElem hlt) y
      dsimp only at w1
      split at w1
      · rename_i σ2 e
        refine gTg_ok hK e rx (er1.keep k2) fun τ2 er2 => ?_
        refine ⟨σ2, S1, _, Xf, er2, sr1.same sm, w1, ?_, kx.keep ((k0.trans k1).trans k2)⟩
        have z : ∀ σ' S' τ' H', TK H2 H' → ER Z H' σ' τ' → SR Z S' H' → forW live t (fun K σ S => wb K Xf σ S) K (ds.drop (i + 1)) σ' S' → TK H0 H' ∧ ∃ σ S, ER Z H' σ τ' ∧ SR Z S H' ∧ forW live t (fun K σ S => wb K Xf σ S) K (ds.drop (i + 1)) σ S :=
          fun σ' S' τ' H' k' er' sr' w' => ⟨(k1.trans k2).trans k', σ', S', er', sr', w'⟩
        have kd' := kd.keep ((k0.trans k1).trans k2)
        exact ⟨z, kd'.rt, kd'.nx, z⟩
      · exact w1.elim
    · have e : i = ds.length := by omega
      subst e
      rw [List.drop_length] at w1
      exact .inl ⟨wk.stop S1 H1 k1 sr1 w1.1, kd.nx σ1 S1 τ1 H1 (k0.trans k1) er1 sr1 w1.2⟩
/-- x, y = e, f: no tuple is made -/
theorem ss_par {i j : Nat} {x y : Str} {px py pt : Pos} {kt k2 : Nat} {pt2 : Pos} (hc : X.calm = true) (hN : X.N.Nodup) (hi : X.N[i]? = some x) (hj : X.N[j]? = some y) (hij : i ≠ j) (hx : X.env.scope.names.lookup x = some .local) (hy : X.env.scope.names.lookup y = some .local)
    (ha : SAs X Z W [a₀, b₀] ws) (hw : swappedStores [.Tuple [.Name x px, .Name y py] kt pt] (.Tuple [a₀, b₀] k2 pt2) X.env = pure (some [x, y])) (hs : swapsWithSole [.Tuple [.Name x px, .Name y py] kt pt] (.Tuple [a₀, b₀] k2 pt2) pos.line X.env = pure false) :
    SS X Z W (.Assign [.Tuple [.Name x px, .Name y py] kt pt] (.Tuple [a₀, b₀] k2 pt2) pos) (fun K Xf σ S => ws σ S (fun ds S1 => ds.length ≤ sizeLine ∧ (match tgW (.tp [i, j]) (.tup ds) σ with | some σ' => K.nx σ' S1 | none => False)) (fun x S1 => Xf x σ S1)) :=
  PS.imp (ps_par hc hN hi hj hij hx hy ha hw hs) fun D τ H ⟨σ, S, K, Xf, er, sr, w, kd, kx⟩ => by
    refine ⟨σ, S, _, _, er, sr, w, fun ds vs S1 H1 k1 sr1 rs w1 => ?_, kx.kx er⟩
    obtain ⟨_, w1⟩ := w1
    split at w1
    · rename_i σ' e
      unfold tgW at e
      dsimp only at e
      split at e
      · rename_i hl
        cases e
        match ds, vs, rs, hl, w1 with
        | [d1, d2], _, .cons r1 (.cons r2 .nil), _, w1 => exact ⟨_, _, rfl, kd.nx _ S1 _ H1 k1 (((er.keep k1).set i r1).set j r2) sr1 w1⟩
      · cases e
    · exact w1.elim
theorem ss_par3 {i j l : Nat} {x y z : Str} {px py pz pt : Pos} {kt k2 : Nat} {pt2 : Pos} (hc : X.calm = true) (hN : X.N.Nodup) (hi : X.N[i]? = some x) (hj : X.N[j]? = some y) (hl : X.N[l]? = some z) (hij : i ≠ j) (hil : i ≠ l) (hjl : j ≠ l) (hx : X.env.scope.names.lookup x = some .local) (hy : X.env.scope.names.lookup y = some .local) (hz : X.env.scope.names.lookup z = some .local)
    (ha : SAs X Z W [a₀, b₀, c₀] ws) (hw : swappedStores [.Tuple [.Name x px, .Name y py, .Name z pz] kt pt] (.Tuple [a₀, b₀, c₀] k2 pt2) X.env = pure (some [x, y, z])) (hs : swapsWithSole [.Tuple [.Name x px, .Name y py, .Name z pz] kt pt] (.Tuple [a₀, b₀, c₀] k2 pt2) pos.line X.env = pure false) :
    SS X Z W (.Assign [.Tuple [.Name x px, .Name y py, .Name z pz] kt pt] (.Tuple [a₀, b₀, c₀] k2 pt2) pos) (fun K Xf σ S => ws σ S (fun ds S1 => ds.length ≤ sizeLine ∧ (match tgW (.tp [i, j, l]) (.tup ds) σ with | some σ' => K.nx σ' S1 | none => False)) (fun x S1 => Xf x σ S1)) :=
  PS.imp (ps_par3 hc hN hi hj hl hij hil hjl hx hy hz ha hw hs) fun D τ H ⟨σ, S, K, Xf, er, sr, w, kd, kx⟩ => by
    refine ⟨σ, S, _, _, er, sr, w, fun ds vs S1 H1 k1 sr1 rs w1 => ?_, kx.kx er⟩
    obtain ⟨_, w1⟩ := w1
    split at w1
    · rename_i σ' e
      unfold tgW at e
      dsimp only at e
      split at e
      · rename_i hl
        cases e
        match ds, vs, rs, hl, w1 with
        | [d1, d2, d3], _, .cons r1 (.cons r2 (.cons r3 .nil)), _, w1 => exact ⟨_, _, _, rfl, kd.nx _ S1 _ H1 k1 ((((er.keep k1).set i r1).set j r2).set l r3) sr1 w1⟩
      · cases e
    · exact w1.elim
end
end Mini
end L2
/-! Mini, part K: exceptions: clauses with and without a name, made, raised -/
namespace L2
namespace Mini
open PySem PySem.Spec PyProof.Rows
/-- a clause: its class, the slot of its name, its suite's reading -/
structure Hcl where
  c : Value
  sl : Option Nat
  ts : Addr → Value → Option Addr → TS
def Dsl (D : Ends) : Option Nat → Ends
  | none => D
  | some i => ⟨fun σ H => D.nx (σ.set i none) H, D.rt, fun σ H => D.bk (σ.set i none) H, fun σ H => D.ct (σ.set i none) H⟩
def σsl (σ : St) (a : Addr) : Option Nat → St
  | none => σ
  | some i => σ.set i (some (.ref a))
/-- what the clauses wish -/
def wHs (K : PySem.W.Frag) (Wout : WX) (D : Ends) : List Hcl → WX
  | [] => Wout
  | h :: r => fun cls d σ H => ∃ b, PySem.W.exmOne K cls h.c = some b ∧ (b = true → ∀ a, H a = none → h.ts a cls d (Dsl D h.sl) (σsl σ a h.sl) H) ∧ (b = false → wHs K Wout D r cls d σ H)
inductive HcOk (X : Cx) : List ExceptHandler → List Hcl → Prop
  | nil : HcOk X [] []
  | plain {x : Str} {c : Value} {ts : Addr → Value → Option Addr → TS} {b₀ : Stmt} {su : List Stmt} {np p1 : Pos} {hds : List ExceptHandler} {l : List Hcl} (hc : Names X x c)
      (hsu : ∀ (a : Addr) (oe : Obj) (cls : Value) (d : Option Addr) (pn : List (Addr × Obj)), Zc cls d oe → (∃ vs, oe.data = .fields vs) → PSs (X.suite a ((a, oe) :: pn)) (b₀ :: su) (ts a cls d)) (r : HcOk X hds l) :
      HcOk X (.ExceptHandler (some (.Name x np)) none (b₀ :: su) p1 :: hds) (⟨c, none, ts⟩ :: l)
  | named {x n : Str} {i : Nat} {c : Value} {ts : Addr → Value → Option Addr → TS} {b₀ : Stmt} {su : List Stmt} {np p1 : Pos} {hds : List ExceptHandler} {l : List Hcl} (hN : X.N.Nodup) (hi : X.N[i]? = some n) (hln : X.env.kindOf n = some .local) (hc : Names X x c)
      (hsu : ∀ (a : Addr) (oe : Obj) (cls : Value) (d : Option Addr) (pn : List (Addr × Obj)), Zc cls d oe → (∃ vs, oe.data = .fields vs) → PSs (X.suite a ((a, oe) :: pn)) (b₀ :: su) (ts a cls d)) (r : HcOk X hds l) :
      HcOk X (.ExceptHandler (some (.Name x np)) (some n) (b₀ :: su) p1 :: hds) (⟨c, some i, ts⟩ :: l)
section
variable {X : Cx} {body : List Stmt} {h₀ : ExceptHandler} {hds : List ExceptHandler} {l : List Hcl} {pos : Pos} {tb : WX → TS} {Wout : WX}
/-- behind the suite the state is the def's again -/
theorem SP.ofSuite {X : Cx} {D : Ends} {pins : List (Addr × Obj)} {a : Addr} {oe : Obj} {f : Flow} {s' : Shared} (ok : X.Ok) (h : SP (X.suite a ((a, oe) :: (X.pn ++ pins))) [] D f s') : SP X pins D f s' := by
  cases f with
  | next => exact let ⟨_, _, S6, q6⟩ := h; ⟨_, _, S6.unsuite ok, q6⟩
  | brk => exact let ⟨_, _, S6, q6⟩ := h; ⟨_, _, S6.unsuite ok, q6⟩
  | cont => exact let ⟨_, _, S6, q6⟩ := h; ⟨_, _, S6.unsuite ok, q6⟩
  | ret u => exact let ⟨_, _, _, S6, r6, q6⟩ := h; ⟨_, _, _, S6.unsuite ok, r6, q6⟩
/-- behind a suite with a name: the name is gone -/
theorem SP.ofNamed {X : Cx} {D : Ends} {pins : List (Addr × Obj)} {a : Addr} {oe : Obj} {i : Nat} {n : Str} {p1 : Pos} {f : Flow} {s' : Shared} (ok : X.Ok) (hN : X.N.Nodup) (hi : X.N[i]? = some n) (hln : X.env.kindOf n = some .local)
    (h : SP (X.suite a ((a, oe) :: (X.pn ++ pins))) [] (Dsl D (some i)) f s') : wpAny (model X.prog X.w) X.A (do bindName X.env n .none; unbindBehindTheSuite X.env n p1) (fun _ s7 => SP X pins D f s7) X.xe s' := by
  have fin : ∀ {σ6 : St} {H6 : Hp}, Inv (X.suite a ((a, oe) :: (X.pn ++ pins))) [] σ6 H6 s' → (∀ s7, Inv X pins (σ6.set i none) H6 s7 → SP X pins D f s7) →
    wpAny (model X.prog X.w) X.A (do bindName X.env n .none; unbindBehindTheSuite X.env n p1) (fun _ s7 => SP X pins D f s7) X.xe s' := fun S6 hq => gone_ok (S6.unsuite ok) hN hi hln hq
  cases f with
  | next => exact let ⟨_, _, S6, q6⟩ := h; fin S6 fun s7 J7 => ⟨_, _, J7, q6⟩
  | brk => exact let ⟨_, _, S6, q6⟩ := h; fin S6 fun s7 J7 => ⟨_, _, J7, q6⟩
  | cont => exact let ⟨_, _, S6, q6⟩ := h; fin S6 fun s7 J7 => ⟨_, _, J7, q6⟩
  | ret u => exact let ⟨_, _, _, S6, r6, q6⟩ := h; fin S6 fun s7 J7 => ⟨_, _, _, J7, r6, q6⟩
theorem SP.ofTry {D : Ends} {pins : List (Addr × Obj)} {xe : Value → Shared → Prop} {f : Flow} {s' : Shared} (ok : X.Ok) (h : SP (X.tr (X.pn ++ pins) xe) [] D f s') : SP X pins D f s' := by
  cases f with
  | next => exact let ⟨_, _, J, q⟩ := h; ⟨_, _, J.ofTry ok, q⟩
  | brk => exact let ⟨_, _, J, q⟩ := h; ⟨_, _, J.ofTry ok, q⟩
  | cont => exact let ⟨_, _, J, q⟩ := h; ⟨_, _, J.ofTry ok, q⟩
  | ret u => exact let ⟨_, _, _, J, r, q⟩ := h; ⟨_, _, _, J.ofTry ok, r, q⟩
/-- the clauses one after the other, the exception on the ground -/
theorem clauses_ok {pins : List (Addr × Obj)} {D : Ends} {s1 : Shared} {sI : Shared} {h3 : Heap} {a : Addr} {B : Heap} {σ' : St} {H' : Hp} {cls : Value} {d : Option Addr} (hs : X.stack = X.env :: X.outer) (hf : X.env.frame = some X.env.locals) (tk : Takes X Wout) (ok : X.Ok)
    (J : Inv X pins σ' H' sI) (nb : ∀ b o, sI.heap.get? b = some o → b ∉ frs X.stack → B.get? b = some o) (fl3 : HandSPX.FlyingZ B (X.env :: X.outer) a (Zc cls d) h3) (up : sI.heap.UpToSlots h3) (os : s1.os = sI.os) (ag : AllBare s1.gens) (na : H' a = none)
    (nL : a ≠ X.env.locals) (nF : a ∉ X.fs) : ∀ {hs' : List ExceptHandler} {l' : List Hcl}, HcOk X hs' l' → wHs X.K Wout D l' cls d σ' H' → wpAny (model X.prog X.w) X.A (handleBy (.ref a) X.env hs') (SP X pins D) X.xe { s1 with heap := h3 } := by
  obtain ⟨oe3, vs3, he3, hz3, hd3⟩ := fl3.there
  have J3 : Inv X pins σ' H' { s1 with heap := h3 } := J.landed nb fl3.1 up os ag
  have S3 := J3.suite he3 hd3 na nL nF
  -- the clause's test
  have tst : ∀ {x : Str} {c : Value} {np : Pos} {b : Bool} {Q : Bool → Shared → Prop} {E : Value → Shared → Prop}, Names X x c → PySem.W.exmOne X.K cls c = some b → (∀ {Q' : Value → Shared → Prop}, Q' c { s1 with heap := h3 } → wpAny (model X.prog X.w) (X.A.mark (some (.ref a))) (eval (.Name x np) X.env) Q' E { s1 with heap := h3 }) := by
    intro x c np b Q E hc hb Q' q
    obtain ⟨hg, hdbg, hm | ⟨hm, hv, hnn⟩⟩ := hc
    · exact ld_glob (X := X.suite a ((a, oe3) :: (X.pn ++ pins))) S3 hg hm q hdbg
    · exact ld_blt (X := X.suite a ((a, oe3) :: (X.pn ++ pins))) S3 hg hm hv q hnn hdbg
  have LT : PySem.W.Looks (model X.prog X.w) h3 (typeOf (.ref a)) cls := fun A Q E s k q => wpAny_typeOf_ref (k _ _ he3) (by rw [hz3.1]; exact q)
  intro hs' l' hk
  induction hk with
  | nil =>
    intro w
    obtain ⟨k1, k2, k3, oe, vs, T, oT, tsz, he, hz, hd, h1, hr⟩ := id fl3
    refine wpAny_handleBy_nil ?_
    unfold PySem.passOn
    refine wpAny_bind (wpAny_field he hd h1 ?_)
    rw [if_neg (show ¬ ((Value.ref T == Value.none) = true) by simp)]
    have fin : wpAny (model X.prog X.w) X.A (setFlight (.ref a) X.env.frame) (fun _ s4 => wpAny (model X.prog X.w) X.A (throw (.ref a) : Sem Flow) (SP X pins D) X.xe s4) X.xe { s1 with heap := h3 } := by
      rw [hf]
      refine HandSPX.setFlight_upZ fl3 fun h4 hh4 up4 => wpAny_throw (tk _ _ ?_)
      refine ⟨a, B, sI, pins, σ', H', cls, d, rfl, J, nb, up.trans up4, .inr (.inr ?_), na, os, ag, w⟩
      rw [hs]; exact hh4
    first
      | exact wpAny_bind (wpAny_pure (wpAny_bind fin))
      | exact wpAny_bind fin
  | @plain x c ts b₀ su np p1 hds2 l2 hc hsu r ih =>
    intro w
    obtain ⟨b, hb1, hyes, hno⟩ := w
    refine wpAny_handleBy_cons (codeAny_handlers_test (tst (b := b) (Q := fun _ _ => True) hc hb1 ((PySem.W.exm_one (M := model X.prog X.w) J3.kIn LT hb1).here ?_))) (by intro q; cases q)
    cases b with
    | false => exact ih (hno rfl)
    | true =>
      refine codeAny_handlers_suite (HandSPX.lands_againZ fl3 fun h4 fl4 up4 => ?_)
      obtain ⟨oe4, vs4, he4, hz4, hd4⟩ := fl4.there
      have J4 : Inv X pins σ' H' { s1 with heap := h4 } := J.landed nb fl4.1 (up.trans up4) os ag
      exact wpAny_mono ((hsu a oe4 cls d (X.pn ++ pins) hz4 ⟨_, hd4⟩).run [] _ _ H' _ (J4.suite he4 hd4 na nL nF) (hyes rfl a na)) (fun f s6 h => SP.ofSuite ok h) fun _ _ z => z.elim
  | @named x n i c ts b₀ su np p1 hds2 l2 hN hi hln hc hsu r ih =>
    intro w
    obtain ⟨b, hb1, hyes, hno⟩ := w
    refine wpAny_handleBy_cons (codeAny_handlers_test (tst (b := b) (Q := fun _ _ => True) hc hb1 ((PySem.W.exm_one (M := model X.prog X.w) J3.kIn LT hb1).here ?_))) (by intro q; cases q)
    cases b with
    | false => exact ih (hno rfl)
    | true =>
      refine codeAny_handlers_suite_as (HandSPX.lands_againZ fl3 fun h4 fl4 up4 => ?_)
      obtain ⟨oe4, vs4, he4, hz4, hd4⟩ := fl4.there
      have J4 : Inv X pins σ' H' { s1 with heap := h4 } := J.landed nb fl4.1 (up.trans up4) os ag
      refine store_ok (X := X.suite a ((a, oe4) :: (X.pn ++ pins))) (v := .ref a) (J4.suite he4 hd4 na nL nF) hN hi (.inl hln) rfl (fun s5 S5 => ?_) (.inr hln)
      refine wpAny_mono ((hsu a oe4 cls d (X.pn ++ pins) hz4 ⟨_, hd4⟩).run [] s5 _ H' _ S5 (hyes rfl a na)) (fun f s6 h => ?_) fun _ _ z => z.elim
      have e := SP.ofNamed (p1 := p1) ok hN hi hln h
      cases f <;> exact e
theorem ps_tryH (hs : X.stack = X.env :: X.outer) (hf : X.env.frame = some X.env.locals) (tk : Takes X Wout)
    (hb : ∀ (W : WX) (pn : List (Addr × Obj)) (xe : Value → Shared → Prop), Takes (X.tr pn xe) W → PassesOwn (model X.prog X.w) X.A X.env xe → PSs (X.tr pn xe) body (tb W)) (hh : HcOk X (h₀ :: hds) l) :
    PS X (.Try body (h₀ :: hds) [] [] pos) (fun D σ H => tb (wHs X.K Wout D l) D σ H) := by
  refine ⟨fun pins s σ H D I h => wpAny_Try_except ?_⟩
  have ok := I.ok
  have hfr : X.A.frames = some (X.env :: X.outer) := by rw [ok.frames, hs]
  refine wpAny_mono ((hb _ (X.pn ++ pins) (fun e s₁ => wpAny (model X.prog X.w) X.A (noteFrame e X.env) (fun _ s₂ => wpAny (model X.prog X.w) X.A (setFlight e none) (fun _ s₃ => wpAny (model X.prog X.w) X.A (handleBy e X.env (h₀ :: hds)) (SP X pins D) X.xe s₃) X.xe s₂) X.xe s₁)
    (fun u s' xx => ?_) PassesOwn.looking).run [] s σ H D (I.toTry _) h) (fun f s1 hsp => ?_) (fun _ _ he => he)
  · obtain ⟨a, B, sI, pins', σ', H', cls, d, rfl, J', nb, up, sky, na, os, ag, w⟩ := xx
    have J : Inv X pins σ' H' sI := J'.ofTry ok
    have sky' : Sky B (X.env :: X.outer) a (Zc cls d) X.env.locals s'.heap := by rw [← hs]; exact sky
    show wpAny _ _ (noteFrame (.ref a) X.env) _ _ _
    refine Sky.land Zc.steady hfr hf sky' fun h3 fl3 up3 => ?_
    obtain ⟨oe3, vs3, he3, hz3, hd3⟩ := fl3.there
    have nfr : a ∉ frs (X.env :: X.outer) := fun hm => by
      obtain ⟨_, o', e', hnf⟩ := fl3.2.2.1.mem hm
      rw [he3] at e'
      cases e'
      exact hnf _ hd3
    have nL : a ≠ X.env.locals := fun z => nfr (List.mem_filterMap.mpr ⟨X.env, List.mem_cons_self, by rw [hf, z]⟩)
    have nF : a ∉ X.fs := fun hm => let ⟨e, he, q⟩ := List.mem_filterMap.mp hm; nfr (List.mem_filterMap.mpr ⟨e, List.mem_cons_of_mem _ he, q⟩)
    exact clauses_ok hs hf tk ok J nb fl3 (up.trans up3) os ag na nL nF hh w
  · have q := SP.ofTry ok hsp
    cases f with
    | next => exact wpAny_execs_nil q
    | brk => exact q
    | cont => exact q
    | ret u => exact q
end
end Mini
end L2
/-! Mini, part L: raise, try -/
namespace L2
namespace Mini
open PySem PySem.Spec PyProof.Rows
/-- what «except C» says of an exception of class c -/
theorem exm_of {K : PySem.W.Frag} {c C : Addr} {b : Bool} (h1 : PySem.W.subIn K (.ref C) (.type "BaseException") = some true) (h2 : PySem.W.isClsIn K C = true) (h3 : PySem.W.typeIn K (.ref C) = some (.type "type"))
    (h4 : PySem.W.subIn K (.ref c) (.ref C) = some b) : PySem.W.exmOne K (.ref c) (.ref C) = some b := by
  have q2 : (PySem.W.clsIn K C).isSome = true := h2
  unfold PySem.W.exmOne PySem.W.kitCls
  rw [h1]
  dsimp only
  rw [h3, q2, h4]
  simp
/-- X(), X an own class without own __init__ -/
theorem mx0 {X : Cx} {C : Addr} {bmB : List Value} {B newId initId : String} {x : Str} {p pos : Pos} (F : ExcBaseFacts B newId initId bmB) (q : PySem.W.excIn X.K C bmB newId = true) (gC : X.mg x = some (.ref C)) (kC : PySem.W.keepIn X.K (.ref C) = true) (r : Raises X (.ref C)) (hg : Gl X x)
    (hdb : (x == ("__debug__" : Str)) = false) : PMk X (.Call (.Name x p) [] [] pos) (fun _ H Q => Q (.ref C) none H) := by
  intro pins s σ H Q I h
  refine wpAny_Call_Name_kw (ld_glob I hg gC ?_ hdb)
  refine PySem.W.callWith_K0 I.kIn kC ?_
  show wpAny _ _ (call (.ref C) []) _ _ _
  obtain ⟨bm, N, nm, qn, bs, hdct, sn, sub, ab, col, dd, k0, k1, k2, k3, k5, mN, hC, hN, hni, T⟩ := exc_obj I.kIn q
  obtain ⟨hp1, g1, d1, tk1, os1⟩ := s
  exact wpAny_call_exc_subT F T hC hN hni (fun h' e hm => mk_of I hm r h (I.hok.gone hm.new)) (Nat.zero_le _)
/-- __init__(self, ..): self.f = .. -/
def SpI (C : Addr) (fn : List Str) : Sp := fun vs H Q _ => ∃ (a : Addr) (us : List V), vs = .ref a :: us ∧ us.length = fn.length ∧ H a = some (exo a C none) ∧ ∀ d, H d = none → d ≠ a → Q .non (upd (upd H d (exd d (fn.zip us).reverse)) a (exo a C (some d)))
section
variable {P : Program} {w : World} {K : PySem.W.Frag} {mg : Str → Option Value} {base : Heap}
theorem ok_ini1 {x qual sf a1 f1 : Str} {st : Stmt} {f C : Addr} {fd : FuncData} (F : Fun K x qual st f fd) (S : FnScope [sf, a1] [sf, a1] (defScope st)) (T : OexC K C) (n1 : PySem.W.findIn K (.ref C) f1 = some none)
    (hb : ∀ (cdv : Value) (A : Around) (outer : List PySem.Env) (s : Shared) (H : Hp) (E : XK), PSs (cxOf (L2.CX P w) P w K mg base [sf, a1] qual (defScope st) f cdv A outer s H E) (defBody st) (tSeq (tOst K f1 (tVar 0) (tVar 1)) tNext)) :
    FnOk P w K mg base (L2.CX P w) 1 f fd [sf, a1] (SpI C [f1]) := by
  refine F.okX S (fun vs H Q E h => ?_) (fun cdv A outer s H vs Q E hr h => ⟨_, hb cdv A outer s H E, ?_⟩)
  · obtain ⟨a, us, rfl, hl, _⟩ := h
    simpa using hl
  · obtain ⟨a, us, rfl, hl, ha, q⟩ := h
    obtain ⟨u, rfl⟩ : ∃ u, us = [u] := by
      match us, hl with
      | [u], _ => exact ⟨u, rfl⟩
    exact ⟨u, rfl, .ref a, rfl, a, C, rfl, T, n1, .inl ⟨ha, fun dx n ne => q dx n ne⟩⟩
theorem ok_ini2 {x qual sf a1 a2 f1 f2 : Str} {st : Stmt} {f C : Addr} {fd : FuncData} (F : Fun K x qual st f fd) (S : FnScope [sf, a1, a2] [sf, a1, a2] (defScope st)) (T : OexC K C) (n1 : PySem.W.findIn K (.ref C) f1 = some none) (n2 : PySem.W.findIn K (.ref C) f2 = some none)
    (hb : ∀ (cdv : Value) (A : Around) (outer : List PySem.Env) (s : Shared) (H : Hp) (E : XK), PSs (cxOf (L2.CX P w) P w K mg base [sf, a1, a2] qual (defScope st) f cdv A outer s H E) (defBody st) (tSeq (tOst K f1 (tVar 0) (tVar 1)) (tSeq (tOst K f2 (tVar 0) (tVar 2)) tNext))) :
    FnOk P w K mg base (L2.CX P w) 1 f fd [sf, a1, a2] (SpI C [f1, f2]) := by
  refine F.okX S (fun vs H Q E h => ?_) (fun cdv A outer s H vs Q E hr h => ⟨_, hb cdv A outer s H E, ?_⟩)
  · obtain ⟨a, us, rfl, hl, _⟩ := h
    simpa using hl
  · obtain ⟨a, us, rfl, hl, ha, q⟩ := h
    obtain ⟨u, v, rfl⟩ : ∃ u v, us = [u, v] := by
      match us, hl with
      | [u, v], _ => exact ⟨u, v, rfl⟩
    refine ⟨u, rfl, .ref a, rfl, a, C, rfl, T, n1, .inl ⟨ha, fun dx n ne => ?_⟩⟩
    refine ⟨v, rfl, .ref a, rfl, a, C, rfl, T, n2, .inr ⟨dx, _, upd_same, by rw [upd_ne ne]; exact upd_same, by show 1 ≤ 900; decide, ?_⟩⟩
    have e : upd (upd (upd H dx (exd dx [(f1, u)])) a (exo a C (some dx))) dx (exd dx ((f2, v) :: [(f1, u)])) = upd (upd H dx (exd dx (([f1, f2].zip [u, v]).reverse))) a (exo a C (some dx)) := by
      funext b
      by_cases h1 : b = dx
      · subst h1; rw [upd_same, upd_ne ne, upd_same]; rfl
      · rw [upd_ne h1]
        by_cases h2 : b = a
        · subst h2; rw [upd_same, upd_same]
        · rw [upd_ne h2, upd_ne h2, upd_ne h1, upd_ne h1]
    rw [e]
    exact q dx n ne
end
section
variable {X : Cx} {Z : Nm} {G : Gam} {k : Nat} {W : WX} {a₀ b₀ c₀ e₀ tg : Expr} {es₀ : List Expr} {wa wb wc : WE0} {ws : Env → Sto → (List D → Sto → Prop) → QX → Prop} {pos apos p : Pos}
theorem RF.app {H : Hp} : ∀ {fs gs : List (Nat × D)} {hs ks : List (Str × V)}, RF Z H fs hs → RF Z H gs ks → RF Z H (fs ++ gs) (hs ++ ks)
  | _, _, _, _, .nil, r => r
  | _, _, _, _, .cons l r t, q => .cons l r (RF.app t q)
theorem RF.rev {H : Hp} : ∀ {fs : List (Nat × D)} {hs : List (Str × V)}, RF Z H fs hs → RF Z H fs.reverse hs.reverse
  | _, _, .nil => .nil
  | _, _, .cons l r t => by
    rw [List.reverse_cons, List.reverse_cons]
    exact RF.app (RF.rev t) (.cons l r .nil)
theorem RF.zip {H : Hp} : ∀ {fl : List Nat} {ds : List D} {vs : List V}, (∀ f ∈ fl, f < Z.nf) → RDs Z H ds vs → RF Z H (fl.zip ds) ((fl.map Z.fld).zip vs)
  | [], _, _, _, _ => by simp only [List.zip_nil_left, List.map_nil]; exact .nil
  | f :: fl, [], _, _, r => by cases r; exact .nil
  | f :: fl, d :: ds, _, h, r => by
    cases r with
    | cons r rs => exact .cons (h f List.mem_cons_self) r (RF.zip (fun g hg => h g (List.mem_cons_of_mem _ hg)) rs)
theorem ss_raise0 {c : Nat} {x : Str} {bmB : List Value} {B newId initId : String} (hc : X.calm = true) (tk : Takes X W) (cn : Z.nc ≤ c ∧ c < Z.nx) (hf : G.xfl c = []) (F : ExcBaseFacts B newId initId bmB) (q : PySem.W.excIn X.K (Z.cla c) bmB newId = true)
    (gC : X.mg x = some (.ref (Z.cla c))) (kC : PySem.W.keepIn X.K (.ref (Z.cla c)) = true) (r : Raises X (.ref (Z.cla c))) (hg : Gl X x) (hdb : (x == ("__debug__" : Str)) = false) :
    SS X Z W (.Raise (some (.Call (.Name x p) [] [] apos)) none pos) (fun K Xf σ S => 0 = (G.xfl c).length ∧ Xf ⟨c, ((G.xfl c).zip []).reverse⟩ σ S) :=
  PS.imp (ps_raise hc tk (mx0 F q gC kC r hg hdb)) fun D τ H ⟨σ, S, K, Xf, er, sr, w, kd, kx⟩ => by
    have w2 := w.2
    rw [hf] at w2
    exact kx ⟨c, []⟩ _ none σ S τ H (TK.refl H) er sr ⟨cn, rfl, rfl⟩ w2
theorem ss_raiseI {c fI j : Nat} {f : Addr} {x : Str} {fd : FuncData} {ps : List Str} (hc : X.calm = true) (tk : Takes X W) (cn : Z.nc ≤ c ∧ c < Z.nx) (hfl : ∀ f ∈ G.xfl c, f < Z.nf) (T : OexC X.K (Z.cla c)) (iC : PySem.W.findIn X.K (.ref (Z.cla c)) "__init__" = some (some (.ref f)))
    (tI : PySem.W.typeIn X.K (.ref f) = some (.type "function")) (F1 : FnOk X.prog X.w X.K X.mg X.base (L2.CX X.prog X.w) 1 f fd ps (SpI (Z.cla c) ((G.xfl c).map Z.fld))) (hr : Room 2 X.A) (hb : Binds X.K fd ps []) (hg : Gl X x) (hm : X.mg x = some (.ref (Z.cla c))) (ha : SAs X Z W (e₀ :: es₀) ws)
    (hdb : (x == ("__debug__" : Str)) = false) (he : starEach (e₀ :: es₀) X.env = (false, eval e₀ X.env) :: starEach es₀ X.env) (hpl : (backTo apos (starEach es₀ X.env)).any (·.1) = false) (hsm : (G.xfl c).length ≤ 1000) :
    SS X Z W (.Raise (some (.Call (.Name x p) (e₀ :: es₀) [] apos)) none pos) (fun K Xf σ S => ws σ S (fun ds S1 => ds.length = (G.xfl c).length ∧ Xf ⟨c, ((G.xfl c).zip ds).reverse⟩ σ S1) (fun x S1 => Xf x σ S1)) :=
  PS.imp (ps_raise hc tk (pmk_oex T iC tI F1 hr hb .nil (passes_call takes0 (fun _ _ _ _ z => z)) hg hm ha hdb he hpl)) fun D τ H ⟨σ, S, K, Xf, er, sr, w, kd, kx⟩ => by
    refine ⟨σ, S, _, _, er, sr, w, fun ds vs S1 H1 k1 sr1 rs w1 => ?_, kx.kx er⟩
    have hl := rs.length
    refine ⟨by omega, fun a na => ⟨a, vs, by rw [List.append_nil], by rw [List.length_map]; omega, upd_same, fun d nd ne => ?_⟩⟩
    have hd1 : H1 d = none := by rw [upd_ne ne] at nd; exact nd
    refine ⟨rfl, d, _, upd_same, by rw [upd_ne ne]; exact upd_same, hd1, ?_⟩
    have e : upd (del (upd (upd (upd H1 a (exo a (Z.cla c) none)) d (exd d (((G.xfl c).map Z.fld).zip vs).reverse)) a (exo a (Z.cla c) (some d))) a) d (.xd (((G.xfl c).map Z.fld).zip vs).reverse) = upd H1 d (.xd (((G.xfl c).map Z.fld).zip vs).reverse) := by
      funext b
      by_cases h1 : b = d
      · subst h1; rw [upd_same, upd_same]
      · rw [upd_ne h1, upd_ne h1]
        by_cases h2 : b = a
        · subst h2; rw [del_same]; exact na.symm
        · rw [del_ne h2, upd_ne h2, upd_ne h1, upd_ne h2]
    rw [e]
    have tk2 : TK H1 (upd H1 d (.xd (((G.xfl c).map Z.fld).zip vs).reverse)) := TK.new hd1
    exact kx _ _ _ σ S1 τ _ (k1.trans tk2) ((er.keep k1).keep tk2) (sr1.new hd1) ⟨cn, rfl, _, upd_same, ((RF.zip hfl rs).rev).keep tk2⟩ w1.2
/-! ### clauses -/
def HsOk (X : Cx) (Z : Nm) (W : WX) (G : Gam) (hds : List ExceptHandler) (hs : List (Nat × Su)) : Prop := ∃ l, HcOk X hds l ∧ ∀ D K Xf H x cls dd σ S τ, KD Z H K D → KX Z W H Xf → ER Z H σ τ → SR Z S H → XR Z H x cls dd → tryW G hs x K Xf σ S → wHs X.K W D l cls dd τ H
def ExmOk (K : PySem.W.Frag) (Z : Nm) (G : Gam) (c : Nat) : Prop := ∀ c', Z.nc ≤ c' ∧ c' < Z.nx → PySem.W.exmOne K (.ref (Z.cla c')) (.ref (Z.cla c)) = some (G.xsub c' c)
theorem hs_nil : HsOk X Z W G [] [] := ⟨[], .nil, fun D K Xf H x cls dd σ S τ kd kx er sr xr w => kx x cls dd σ S τ H (TK.refl H) er sr xr w⟩
theorem hs_step {c : Nat} {su : Su} {hs : List (Nat × Su)} {D : Ends} {K : En} {Xf : EX} {H : Hp} {x : Xn} {cls : Value} {dd : Option Addr} {σ : Env} {S : Sto} {τ : St} {l : List Hcl} {h : Hcl} (ex : ExmOk X.K Z G c) (hc : h.c = .ref (Z.cla c)) (xr : XR Z H x cls dd)
    (w : tryW G ((c, su) :: hs) x K Xf σ S) (yes : suW su x K σ S → ∀ a, H a = none → h.ts a cls dd (Dsl D h.sl) (σsl τ a h.sl) H) (no : tryW G hs x K Xf σ S → wHs X.K W D l cls dd τ H) : wHs X.K W D (h :: l) cls dd τ H := by
  refine ⟨G.xsub x.c c, by rw [hc, xr.2.1]; exact ex x.c xr.1, fun e => ?_, fun e => ?_⟩
  · unfold tryW at w; rw [if_pos e] at w; exact yes w
  · unfold tryW at w; rw [if_neg (by rw [e]; exact Bool.false_ne_true)] at w; exact no w
theorem hs_ret {c : Nat} {x : Str} {np p1 : Pos} {hds : List ExceptHandler} {hs : List (Nat × Su)} {e : Expr} {d : D} {v : V} (ex : ExmOk X.K Z G c) (hc : Names X x (.ref (Z.cla c))) (he : ∀ (a : Addr) (pn : List (Addr × Obj)), PE (X.suite a pn) e (tC v)) (rd : ∀ H, RD Z H d v)
    (r : HsOk X Z W G hds hs) : HsOk X Z W G (.ExceptHandler (some (.Name x np)) none [.Return (some e) pos] p1 :: hds) ((c, .ret (.lit d)) :: hs) := by
  obtain ⟨l, hl, hr⟩ := r
  refine ⟨_, .plain hc (fun a oe cls dd pn _ _ => pss_one (ps_ret (he a _))) hl, fun D K Xf H x cls dd σ S τ kd kx er sr xr w => hs_step ex rfl xr w (fun w1 a na => ?_) fun w1 => hr D K Xf H x cls dd σ S τ kd kx er sr xr w1⟩
  exact kd.rt d v S H (TK.refl H) sr (rd H) w1
theorem hs_cnt {c : Nat} {x : Str} {np p1 : Pos} {hds : List ExceptHandler} {hs : List (Nat × Su)} (ex : ExmOk X.K Z G c) (hc : Names X x (.ref (Z.cla c))) (r : HsOk X Z W G hds hs) :
    HsOk X Z W G (.ExceptHandler (some (.Name x np)) none [.Continue pos] p1 :: hds) ((c, .cnt) :: hs) := by
  obtain ⟨l, hl, hr⟩ := r
  refine ⟨_, .plain hc (fun a oe cls dd pn _ _ => pss_one ps_continue) hl, fun D K Xf H x cls dd σ S τ kd kx er sr xr w => hs_step ex rfl xr w (fun w1 a na => ?_) fun w1 => hr D K Xf H x cls dd σ S τ kd kx er sr xr w1⟩
  exact kd.ct σ S τ H (TK.refl H) er sr w1
theorem hs_pass {c : Nat} {x : Str} {np p1 : Pos} {hds : List ExceptHandler} {hs : List (Nat × Su)} (ex : ExmOk X.K Z G c) (hc : Names X x (.ref (Z.cla c))) (r : HsOk X Z W G hds hs) :
    HsOk X Z W G (.ExceptHandler (some (.Name x np)) none [.Pass pos] p1 :: hds) ((c, .pass) :: hs) := by
  obtain ⟨l, hl, hr⟩ := r
  refine ⟨_, .plain hc (fun a oe cls dd pn _ _ => pss_one ps_pass) hl, fun D K Xf H x cls dd σ S τ kd kx er sr xr w => hs_step ex rfl xr w (fun w1 a na => ?_) fun w1 => hr D K Xf H x cls dd σ S τ kd kx er sr xr w1⟩
  exact kd.nx σ S τ H (TK.refl H) er sr w1
theorem hs_set {c i : Nat} {x y : Str} {np p1 p2 : Pos} {hds : List ExceptHandler} {hs : List (Nat × Su)} {e : Expr} {d : D} {v : V} (ex : ExmOk X.K Z G c) (hc : Names X x (.ref (Z.cla c))) (he : ∀ (a : Addr) (pn : List (Addr × Obj)), PE (X.suite a pn) e (tC v)) (rd : ∀ H, RD Z H d v)
    (hN : X.N.Nodup) (hi : X.N[i]? = some y) (hx : Loc X.env.scope y) (hf : X.fn y = true ∨ X.env.scope.names.lookup y = some .local) (hs' : swapsWith e (some (.Name y p2)) pos.line X.env = pure false)
    (r : HsOk X Z W G hds hs) : HsOk X Z W G (.ExceptHandler (some (.Name x np)) none [.Assign [.Name y p2] e pos] p1 :: hds) ((c, .set i d) :: hs) := by
  obtain ⟨l, hl, hr⟩ := r
  refine ⟨_, .plain hc (fun a oe cls dd pn _ _ => pss_one (ps_set (X := X.suite a ((a, oe) :: pn)) hN hi hx (he a _) hs' hf)) hl, fun D K Xf H x cls dd σ S τ kd kx er sr xr w => hs_step ex rfl xr w (fun w1 a na => ?_) fun w1 => hr D K Xf H x cls dd σ S τ kd kx er sr xr w1⟩
  exact kd.nx _ S _ H (TK.refl H) (er.set i (rd H)) sr w1
/-- e.f, e the exception that the suite holds -/
structure XfOk (K : PySem.W.Frag) (C : Addr) (f : Str) : Prop where
  ga : PySem.W.findIn K (.ref C) "__getattribute__" = some (some (.builtin "BaseException.__getattribute__"))
  gg : PySem.W.findIn K (.ref C) "__getattr__" = some none
  no : PySem.W.findIn K (.ref C) f = some none
  ex : PySem.W.subIn K (.ref C) (.type "BaseException") = some true
  hd : PySem.W.hasDictIn K C = true
def tXf (K : PySem.W.Frag) (a : Addr) (cls : Value) (d : Option Addr) (f : Str) (te : TE) : TE := fun σ H Q => te σ H fun x H1 => x = .ref a ∧ ∃ (C dd : Addr) (gs : List (Str × V)) (v : V), cls = .ref C ∧ XfOk K C f ∧ d = some dd ∧ H1 dd = some (.xd gs) ∧ gs.lookup f = some v ∧ Q v H1
theorem pe_xf {a : Addr} {oe : Obj} {cls : Value} {d : Option Addr} {pn : List (Addr × Obj)} {e : Expr} {te : TE} {f : Str} (hz : Zc cls d oe) (hf : ∃ vs, oe.data = .fields vs) (he : PE (X.suite a ((a, oe) :: pn)) e te)
    (hb : attributeBase e f X.env (eval e X.env) = eval e X.env) : PE (X.suite a ((a, oe) :: pn)) (.Attribute e f pos) (tXf X.K a cls d f te) := by
  refine ⟨fun pins s σ H Q I h => attr_of hb (thn (he.run pins s σ H _ I h) fun u s1 ⟨x, H1, I1, rx, ex, C, dd, gs, v, ec, T, ed, ea, lv, q⟩ => ?_)⟩
  subst ex ec ed
  obtain rfl : u = Value.ref a := rx
  obtain ⟨ha, _⟩ := I1.pin (a, oe) (List.mem_append_left _ List.mem_cons_self)
  obtain ⟨vs, hd⟩ := hf
  obtain ⟨mA, hns, hr⟩ := (I1.hok dd _ ea : ObjOk X.prog X.w H1 s1.heap dd (.xd gs))
  obtain ⟨od, ho, hl⟩ := lookIn_ns hns
  obtain ⟨u, hu, ru⟩ := RelO.some_of (v := v) (o := mA f) (by rw [← lv]; exact hr f)
  have J : PySem.W.InstAt s1.heap a oe C (some od) := by
    refine ⟨ha, hz.1, ?_, by rw [hz.2]; exact ho⟩
    unfold PySem.W.notCls
    rw [hd] <;> rfl
  exact HandSPX.exc_get I1.kIn J T.ga T.gg T.ex (PySem.W.findObj_own T.hd T.no rfl (by rw [hl, hu])) (handed_of ru) ⟨v, H1, I1.tok _, ru, q⟩
def XfsOk (K : PySem.W.Frag) (Z : Nm) (f : Nat) : Prop := f < Z.nf ∧ ∀ c, Z.nc ≤ c ∧ c < Z.nx → XfOk K (Z.cla c) (Z.fld f)
/-- the field's reading, at the exception in the suite -/
theorem xf_at {f i : Nat} {x : Xn} {cls : Value} {dd : Option Addr} {τ : St} {H : Hp} {a : Addr} {d : D} {Q : VK} (hK : Z.K = X.K) (xo : XfsOk X.K Z f) (xr : XR Z H x cls dd) (hi : i < τ.length) (e : fget x.fs f = some d) (q : ∀ v, RD Z H d v → Q v H) :
    tXf X.K a cls dd (Z.fld f) (tVar i) (τ.set i (some (.ref a))) H Q := by
  obtain ⟨cn, hc, hr⟩ := xr
  cases dd with
  | none => dsimp only at hr; rw [hr] at e; cases e
  | some b =>
    obtain ⟨gs, hb, rf⟩ := hr
    obtain ⟨v, hv, rv⟩ := rf.get f xo.1 e
    exact ⟨_, List.getElem?_set_self hi, rfl, _, b, gs, v, hc, xo.2 x.c cn, rfl, hb, hv, q v rv⟩
theorem hs_exf {c i f : Nat} {x n : Str} {np p1 p2 p3 : Pos} {hds : List ExceptHandler} {hs : List (Nat × Su)} {fx : Str} (hK : Z.K = X.K) (ex : ExmOk X.K Z G c) (hc : Names X x (.ref (Z.cla c))) (hN : X.N.Nodup) (hi : X.N[i]? = some n) (hln : X.env.kindOf n = some .local)
    (hv : Vis X.env.scope n) (hd : (n == ("__debug__" : Str)) = false) (hcd : (n == ("__classdict__" : Str)) = false) (hfx : fx = Z.fld f) (xo : XfsOk X.K Z f) (hb : attributeBase (.Name n p2) fx X.env (eval (.Name n p2) X.env) = eval (.Name n p2) X.env)
    (r : HsOk X Z W G hds hs) : HsOk X Z W G (.ExceptHandler (some (.Name x np)) (some n) [.Return (some (.Attribute (.Name n p2) fx p3)) pos] p1 :: hds) ((c, .ret (.exf i f)) :: hs) := by
  subst hfx
  obtain ⟨l, hl, hr⟩ := r
  refine ⟨_, .named hN hi hln hc (fun a oe cls dd pn hz hf => pss_one (ps_ret (pe_xf hz hf (pe_var (X := X.suite a ((a, oe) :: pn)) hi hv hd hcd) hb))) hl, fun D K Xf H x cls dd σ S τ kd kx er sr xr w => hs_step ex rfl xr w (fun w1 a na => ?_) fun w1 => hr D K Xf H x cls dd σ S τ kd kx er sr xr w1⟩
  obtain ⟨hil, d, e, w1⟩ := (w1 : i < σ.length ∧ ∃ d, fget x.fs f = some d ∧ K.rt d S)
  exact xf_at hK xo xr (by rw [er.1]; exact hil) e fun v rv => kd.rt d v S H (TK.refl H) sr rv w1
theorem hs_exf2 {c i f g k2 : Nat} {x n : Str} {np p1 p2 p3 p4 p5 p6 : Pos} {hds : List ExceptHandler} {hs : List (Nat × Su)} {fx gx : Str} (hK : Z.K = X.K) (ex : ExmOk X.K Z G c) (hc : Names X x (.ref (Z.cla c))) (hN : X.N.Nodup) (hi : X.N[i]? = some n) (hln : X.env.kindOf n = some .local)
    (hv : Vis X.env.scope n) (hd : (n == ("__debug__" : Str)) = false) (hcd : (n == ("__classdict__" : Str)) = false) (hfx : fx = Z.fld f) (hgx : gx = Z.fld g) (xo : XfsOk X.K Z f) (xo2 : XfsOk X.K Z g) (hb : attributeBase (.Name n p2) fx X.env (eval (.Name n p2) X.env) = eval (.Name n p2) X.env)
    (hb2 : attributeBase (.Name n p4) gx X.env (eval (.Name n p4) X.env) = eval (.Name n p4) X.env) (hs1 : starEach [.Attribute (.Name n p2) fx p3, .Attribute (.Name n p4) gx p5] X.env = (false, eval (.Attribute (.Name n p2) fx p3) X.env) :: starEach [.Attribute (.Name n p4) gx p5] X.env)
    (hs2 : starEach [.Attribute (.Name n p4) gx p5] X.env = (false, eval (.Attribute (.Name n p4) gx p5) X.env) :: starEach [] X.env)
    (r : HsOk X Z W G hds hs) : HsOk X Z W G (.ExceptHandler (some (.Name x np)) (some n) [.Return (some (.Tuple [.Attribute (.Name n p2) fx p3, .Attribute (.Name n p4) gx p5] k2 p6)) pos] p1 :: hds) ((c, .ret (.exf2 i f g)) :: hs) := by
  subst hfx hgx
  obtain ⟨l, hl, hr⟩ := r
  refine ⟨_, .named hN hi hln hc (fun a oe cls dd pn hz hf => pss_one (ps_ret (pe_tup (pa_cons (pe_xf hz hf (pe_var (X := X.suite a ((a, oe) :: pn)) hi hv hd hcd) hb) (pa_cons (pe_xf hz hf (pe_var (X := X.suite a ((a, oe) :: pn)) hi hv hd hcd) hb2) pa_nil hs2) hs1)))) hl, fun D K Xf H x cls dd σ S τ kd kx er sr xr w => hs_step ex rfl xr w (fun w1 a na => ?_) fun w1 => hr D K Xf H x cls dd σ S τ kd kx er sr xr w1⟩
  obtain ⟨hil, d, d2, e, e2, w1⟩ := (w1 : i < σ.length ∧ ∃ d d2, fget x.fs f = some d ∧ fget x.fs g = some d2 ∧ K.rt (.tup [d, d2]) S)
  have hil' : i < τ.length := by rw [er.1]; exact hil
  dsimp only [tRet, tTup, tCons, tNil, Dsl, σsl]
  refine xf_at hK xo xr hil' e fun v rv => ?_
  refine xf_at hK xo2 xr hil' e2 fun v2 rv2 => ?_
  refine ⟨by show 2 ≤ sizeLine; rw [sizeLine_eq]; omega, fun p hp => ?_⟩
  exact kd.rt _ _ S _ (TK.new hp) (sr.new hp) (.tup (.inl upd_same) (.cons (rv.keep (TK.new hp)) (.cons (rv2.keep (TK.new hp)) .nil))) w1
theorem ss_try {body : List Stmt} {h₀ : ExceptHandler} {hds : List ExceptHandler} {hs : List (Nat × Su)} {wb : WS0} (hst : X.stack = X.env :: X.outer) (hf : X.env.frame = some X.env.locals) (tk : Takes X W)
    (hb : ∀ (W' : WX) (pn : List (Addr × Obj)) (xe : Value → Shared → Prop), Takes (X.tr pn xe) W' → PassesOwn (model X.prog X.w) X.A X.env xe → SSs (X.tr pn xe) Z W' body wb) (hh : HsOk X Z W G (h₀ :: hds) hs) :
    SS X Z W (.Try body (h₀ :: hds) [] [] pos) (fun K Xf σ S => wb K (fun x σ' S' => tryW G hs x K Xf σ' S') σ S) := by
  obtain ⟨l, hl, hr⟩ := hh
  refine PS.imp (ps_tryH hst hf tk (tb := fun W' => TSx Z W' wb) hb hl) fun D τ H ⟨σ, S, K, Xf, er, sr, w, kd, kx⟩ => ?_
  exact ⟨σ, S, K, _, er, sr, w, kd, fun x cls dd σ' S' τ' H' k' er' sr' xr' w' => hr D K Xf H' x cls dd σ' S' τ' (kd.keep k') (kx.keep k') er' sr' xr' w'⟩
end
end Mini
end L2
/-! Mini, part M: comprehensions, enumerate, zip -/
namespace L2
namespace Mini
open PySem PySem.Spec PyProof.Rows
/-! ### slots wiped -/
theorem wipe_get (τ : St) (j : Nat) : ∀ vs : List Nat, (wipe τ vs)[j]? = if j ∈ vs then (if j < τ.length then some none else none) else τ[j]?
  | [] => by simp [wipe]
  | v :: vs => by
    unfold wipe
    by_cases h : v = j
    · subst h
      by_cases hl : v < τ.length
      · rw [List.getElem?_set_self (by rw [wipe_length]; exact hl)]; simp [hl]
      · rw [List.getElem?_eq_none (by rw [List.length_set, wipe_length]; omega)]; simp [hl]
    · rw [List.getElem?_set_ne h, wipe_get τ j vs]
      have : j ≠ v := fun e => h e.symm
      simp [this]
theorem wipe_put {τ : St} {i : Nat} {x : Option V} {vs : List Nat} (h : i ∈ vs) : wipe (τ.set i x) vs = wipe τ vs := by
  apply List.ext_getElem?
  intro j
  rw [wipe_get, wipe_get, List.length_set]
  by_cases hj : j ∈ vs
  · rw [if_pos hj, if_pos hj]
  · rw [if_neg hj, if_neg hj, List.getElem?_set_ne (fun e => hj (by rw [← e]; exact h))]
theorem wipe_wipe {τ : St} {vs : List Nat} : wipe (wipe τ vs) vs = wipe τ vs := by
  apply List.ext_getElem?
  intro j
  rw [wipe_get, wipe_get, wipe_length]
  by_cases hj : j ∈ vs
  · rw [if_pos hj, if_pos hj]
  · rw [if_neg hj, if_neg hj]
def wipeE (σ : Env) : List Nat → Env
  | [] => σ
  | v :: vs => (wipeE σ vs).set v none
theorem wipeE_length (σ : Env) : ∀ vs : List Nat, (wipeE σ vs).length = σ.length
  | [] => rfl
  | v :: vs => by unfold wipeE; rw [List.length_set, wipeE_length σ vs]
theorem wipeE_ne (σ : Env) {j : Nat} : ∀ {vs : List Nat}, j ∉ vs → (wipeE σ vs)[j]? = σ[j]?
  | [], _ => rfl
  | v :: vs, h => by
    have h1 : v ≠ j := fun e => h (by rw [e]; exact List.mem_cons_self)
    unfold wipeE
    rw [List.getElem?_set_ne h1, wipeE_ne σ fun z => h (List.mem_cons_of_mem _ z)]
theorem wipeE_in (σ : Env) {j : Nat} : ∀ {vs : List Nat}, j ∈ vs → (wipeE σ vs).get j = none
  | [], h => by cases h
  | v :: vs, h => by
    unfold wipeE Env.get
    by_cases e : v = j
    · subst e
      by_cases hl : v < (wipeE σ vs).length
      · rw [List.getElem?_set_self hl]
      · rw [List.getElem?_eq_none (by rw [List.length_set]; omega)]
    · rw [List.getElem?_set_ne e]
      rcases List.mem_cons.mp h with q | q
      · exact absurd q.symm e
      · exact wipeE_in σ q
theorem ER.wipe {Z : Nm} {H : Hp} {σ : Env} {τ : St} (e : ER Z H σ τ) (vs : List Nat) : ER Z H (wipeE σ vs) (L2.wipe τ vs) := by
  refine ⟨by rw [wipe_length, wipeE_length]; exact e.1, fun i d h => ?_⟩
  by_cases hi : i ∈ vs
  · rw [wipeE_in σ hi] at h; cases h
  · obtain ⟨v, h1, h2⟩ := e.2 i d (by unfold Env.get at h ⊢; rw [wipeE_ne σ hi] at h; exact h)
    exact ⟨v, by rw [wipe_get, if_neg hi]; exact h1, h2⟩
def Tg.slots : Tg → List Nat
  | .nm i => [i]
  | .tp is => is
theorem foldSet_eq : ∀ (is : List Nat) (ds : List D) (σ1 σ2 : Env), is.length = ds.length → σ1.length = σ2.length → (∀ j, j ∉ is → σ1[j]? = σ2[j]?) →
    (is.zip ds).foldl (fun (s : Env) (p : Nat × D) => s.set p.1 (some p.2)) σ1 = (is.zip ds).foldl (fun (s : Env) (p : Nat × D) => s.set p.1 (some p.2)) σ2
  | [], [], σ1, σ2, _, hl, h => List.ext_getElem? fun j => h j (by simp)
  | i :: is, d :: ds, σ1, σ2, he, hl, h => by
    rw [List.zip_cons_cons, List.foldl_cons, List.foldl_cons]
    refine foldSet_eq is ds _ _ (Nat.succ.inj he) (by simp [hl]) fun j hj => ?_
    by_cases e : i = j
    · subst e
      by_cases q : i < σ1.length
      · rw [List.getElem?_set_self q, List.getElem?_set_self (by omega)]
      · rw [List.getElem?_eq_none (by simpa using q), List.getElem?_eq_none (by rw [List.length_set]; omega)]
    · rw [List.getElem?_set_ne e, List.getElem?_set_ne e]
      exact h j (by simp only [List.mem_cons, not_or]; exact ⟨fun z => e z.symm, hj⟩)
  | [], _ :: _, _, _, he, _, _ => by cases he
  | _ :: _, [], _, _, he, _, _ => by cases he
theorem tgW_wipe {t : Tg} {d : D} {σ σ' : Env} (h : tgW t d σ = some σ') : tgW t d (wipeE σ t.slots) = some σ' := by
  cases t with
  | nm i =>
    cases h
    show some _ = some _
    refine congrArg some (List.ext_getElem? fun j => ?_)
    by_cases e : i = j
    · subst e
      by_cases q : i < σ.length
      · rw [List.getElem?_set_self q, List.getElem?_set_self (by rw [wipeE_length]; exact q)]
      · rw [List.getElem?_eq_none (by rw [List.length_set, wipeE_length]; omega), List.getElem?_eq_none (by rw [List.length_set]; omega)]
    · rw [List.getElem?_set_ne e, List.getElem?_set_ne e, wipeE_ne σ (by simp [Tg.slots]; exact fun z => e z.symm)]
  | tp is =>
    unfold tgW at h ⊢
    dsimp only at h ⊢
    split at h
    · rename_i ds
      split at h
      · rename_i hl
        cases h
        rw [if_pos hl]
        exact congrArg some (foldSet_eq is ds _ _ hl.symm (wipeE_length σ _) fun j hj => wipeE_ne σ hj)
      · cases h
    · cases h
/-! ### targets that leave the other slots -/
theorem gIs_okw {Z : Nm} {Q : St → Hp → Prop} {H : Hp} : ∀ {is : List Nat} {ds : List D} {vs : List V} {σ : Env} {τ : St}, RDs Z H ds vs → ds.length = is.length → ER Z H σ τ →
    (∀ τ', ER Z H ((is.zip ds).foldl (fun s p => s.set p.1 (some p.2)) σ) τ' → (∀ ws, (∀ i ∈ is, i ∈ ws) → wipe τ' ws = wipe τ ws) → Q τ' H) → gIs is vs τ H Q
  | [], [], _, σ, τ, rs, _, er, q => by cases rs; exact ⟨rfl, q τ er fun _ _ => rfl⟩
  | i :: is, d :: ds, _, σ, τ, rs, hl, er, q => by
    cases rs with
    | cons r rs => exact ⟨_, _, rfl, gIs_okw rs (Nat.succ.inj hl) (er.set i r) fun τ' e h => q τ' e fun ws hw => (h ws fun j hj => hw j (List.mem_cons_of_mem _ hj)).trans (wipe_put (hw i List.mem_cons_self))⟩
  | [], _ :: _, _, _, _, _, hl, _, _ => by cases hl
  | _ :: _, [], _, _, _, _, hl, _, _ => by cases hl
theorem gTg_okw {X : Cx} {Z : Nm} {Q : St → Hp → Prop} {H : Hp} {t : Tg} {d : D} {v : V} {σ σ' : Env} {τ : St} (hK : Z.K = X.K) (h : tgW t d σ = some σ') (r : RD Z H d v) (er : ER Z H σ τ) (q : ∀ τ', ER Z H σ' τ' → wipe τ' t.slots = wipe τ t.slots → Q τ' H) : gTg X.K t v τ H Q := by
  cases t with
  | nm i => cases h; exact q _ (er.set i r) (wipe_put (by simp [Tg.slots]))
  | tp is =>
    unfold tgW at h
    dsimp only at h
    split at h
    · rename_i ds
      split at h
      · rename_i hl
        cases h
        cases r with
        | tup t rs => exact ⟨_, _, rfl, by rw [← hK]; exact t.sq, by rw [← rs.length]; exact hl, gIs_okw rs hl er fun τ' e hw => q τ' e (hw _ fun _ h => h)⟩
      · cases h
    · cases h
abbrev W0 : WX := fun _ _ _ _ => False
section
variable {X : Cx} {Z : Nm} {G : Gam} {k : Nat} {W : WX} {a₀ b₀ c₀ e₀ tg : Expr} {es₀ : List Expr} {wa wb wc : WE0} {ws : Env → Sto → (List D → Sto → Prop) → QX → Prop} {pos apos p : Pos}
/-- the tests of a comprehension -/
def SC (X : Cx) (Z : Nm) (ifs : List Expr) (w : Env → Sto → (Bool → Sto → Prop) → Prop) : Prop := PTs X ifs (TTx Z W0 fun σ S Q _ => w σ S Q)
theorem sc_none : SC X Z [] (fun _ S Q => Q true S) := ⟨fun pins s τ H Q I ⟨σ, S, Qa, E, er, sr, w, q, qe⟩ => (pts_nil (X := X)).run pins s τ H Q I (q true S H (TK.refl H) sr w)⟩
theorem sc_some (h : SEt X Z W0 a₀ (toT wa)) : SC X Z [a₀] (fun σ S Q => wa σ S (fun x S1 => match tru S1 x with | some r => Q r S1 | none => False) (fun _ _ => False)) :=
  ⟨fun pins s τ H Q I ⟨σ, S, Qa, E, er, sr, w, q, qe⟩ => (pts_one h).run pins s τ H Q I ⟨σ, S, Qa, fun _ _ => False, er, sr, w, q, fun _ _ _ _ _ _ _ _ z => z⟩⟩
theorem lc_ok {wi : Env → Sto → (List D → (Sto → Prop) → Sto → Prop) → QX → Prop} {wt : Env → Sto → (Bool → Sto → Prop) → Prop} {we : WE0} {t : Tg} {τ : St} {H : Hp} {Q : VK} (hK : Z.K = X.K)
    (h : TEx Z W (fun σ S Q E => wi σ S (fun ds live S1 => ∀ p, S1 p = none → goW live (fun d K S2 => match tgW t d σ with | some σ' => wt σ' S2 (fun ok S3 => if ok then we σ' S3 (fun y S4 => ∃ acc, S4 p = some (.lst acc) ∧ acc.length < sizeLine ∧ K (S4.upd p (.lst (acc ++ [y])))) (fun _ _ => False) else K S3) | none => False) ds (S1.upd p (.lst [])) (fun S5 => Q (.ref p) S5)) E) τ H Q) :
    tLc (TIx Z W wi) (gTg X.K t) (TTx Z W0 fun σ S Q _ => wt σ S Q) (TEx Z W0 we) t.slots τ H Q := by
  obtain ⟨σ, S, Qa, E, er, sr, w, q, qe⟩ := h
  refine ⟨σ, S, _, E, er, sr, w, fun ds live S0 H0 J k0 sr0 wk w0 D hD => ?_, qe⟩
  have w1 := w0 D (sr0.free hD)
  have tkD : TK H0 (upd H0 D (.lst [])) := TK.new hD
  refine ⟨fun i m H' => m = ds.length - i ∧ i ≤ ds.length ∧ TK (upd H0 D (.lst [])) H' ∧ ∃ S, SR Z S H' ∧ goW live (fun d K S2 => match tgW t d σ with | some σ' => wt σ' S2 (fun ok S3 => if ok then we σ' S3 (fun y S4 => ∃ acc, S4 D = some (.lst acc) ∧ acc.length < sizeLine ∧ K (S4.upd D (.lst (acc ++ [y])))) (fun _ _ => False) else K S3) | none => False) (ds.drop i) S (fun S5 => Qa (.ref D) S5),
    ⟨_, rfl, Nat.zero_le _, TK.refl _, _, sr0.put (c := .lst []) tkD ⟨[], upd_same, .nil⟩, w1⟩, ?_⟩
  rintro i m H1 ⟨rfl, hi, k1, S1, sr1, w1⟩
  have kk1 := tkD.trans k1
  by_cases hlt : i < ds.length
  · rw [List.drop_eq_getElem_cons hlt] at w1
    obtain ⟨lv, w1⟩ := w1
    refine .inr ⟨wk.go i S1 H1 kk1 sr1 lv hlt, fun H' => TK (upd H0 D (.lst [])) H' ∧ ∃ S, SR Z S H' ∧ goW live (fun d K S2 => match tgW t d σ with | some σ' => wt σ' S2 (fun ok S3 => if ok then we σ' S3 (fun y S4 => ∃ acc, S4 D = some (.lst acc) ∧ acc.length < sizeLine ∧ K (S4.upd D (.lst (acc ++ [y])))) (fun _ _ => False) else K S3) | none => False) (ds.drop (i + 1)) S (fun S5 => Qa (.ref D) S5),
      fun H' h => ⟨_, by omega, rfl, hlt, h.1, h.2⟩, fun x H2 y => ?_⟩
    obtain ⟨k2, sm, rx⟩ := wk.yld i S1 H1 x H2 _ kk1 sr1 lv (List.getElem?_eq_getElem hlt) y
    dsimp only at w1
    split at w1
    · rename_i σ2 e
      have er2 : ER Z H2 σ τ := er.keep ((k0.trans kk1).trans k2)
      refine gTg_okw hK (tgW_wipe e) rx (er2.wipe t.slots) fun τ2 er3 hw => ⟨hw.trans wipe_wipe, ?_⟩
      refine ⟨σ2, S1, _, _, er3, sr1.same sm, w1, fun ok S3 H3 k3 sr3 w3 => ?_, fun _ _ _ _ _ _ _ _ z => z⟩
      cases ok with
      | false => exact ⟨(k1.trans k2).trans k3, S3, sr3, w3⟩
      | true =>
        refine ⟨σ2, S3, _, _, er3.keep k3, sr3, w3, fun dy yv S4 H4 k4 sr4 ry ⟨acc, ea, hl, w4⟩ => ?_, fun _ _ _ _ _ _ _ _ z => z⟩
        obtain ⟨vs, hq, rs⟩ := lstAt sr4 ea
        have tk : TK H4 (upd H4 D (.lst (vs ++ [yv]))) := TK.mut hq True.intro
        refine ⟨vs, hq, by rw [← rs.length]; exact hl, ((((k1.trans k2).trans k3).trans k4).trans tk), _, sr4.put (c := .lst (acc ++ [dy])) tk ⟨_, upd_same, (rs.append (.cons ry .nil)).keep tk⟩, w4⟩
    · exact w1.elim
  · have e : i = ds.length := by omega
    subst e
    rw [List.drop_length] at w1
    exact .inl ⟨wk.stop S1 H1 kk1 sr1 w1.1, q (.ref D) (.ref D) S1 H1 (k0.trans kk1) sr1 .ref w1.2⟩
theorem se_lc {elt iter : Expr} {ifs : List Expr} {scope : Scope} {own : List (Str × Nat)} {wi : Env → Sto → (List D → (Sto → Prop) → Sto → Prop) → QX → Prop} {wt : Env → Sto → (Bool → Sto → Prop) → Prop} {we : WE0} {t : Tg} (hK : Z.K = X.K) (hc : X.calm = true) (hN : X.N.Nodup)
    (hi : SI X Z W tg iter wi) (ok : BlkOk X.N X.env.scope scope own) (ho : own.map (·.2) = t.slots)
    (hg : ∀ (s : Shared) (H : Hp) (C : Addr) (cl : List (Str × Addr)) (fp : List Addr), PG (X.blk s H scope (compEnvC scope cl C X.env) fp) tg (gTg X.K t)) (ht : ∀ (s : Shared) (H : Hp) (C : Addr) (cl : List (Str × Addr)) (fp : List Addr), SC (X.blk s H scope (compEnvC scope cl C X.env) fp) Z ifs wt)
    (he : ∀ (s : Shared) (H : Hp) (C : Addr) (cl : List (Str × Addr)) (fp : List Addr), SE (X.blk s H scope (compEnvC scope cl C X.env) fp) Z W0 elt we) (hs : ∀ x, foldedSetIterable iter X.env x = pure x) :
    SE X Z W (.ListComp elt [⟨tg, iter, ifs, 0⟩] scope pos) (fun σ S Q E => wi σ S (fun ds live S1 => ∀ p, S1 p = none → goW live (fun d K S2 => match tgW t d σ with | some σ' => wt σ' S2 (fun ok S3 => if ok then we σ' S3 (fun y S4 => ∃ acc, S4 p = some (.lst acc) ∧ acc.length < sizeLine ∧ K (S4.upd p (.lst (acc ++ [y])))) (fun _ _ => False) else K S3) | none => False) ds (S1.upd p (.lst [])) (fun S5 => Q (.ref p) S5)) E) :=
  PE.imp (pe_lc hc hN hi ok hg ht he hs) fun τ H Q h => by rw [ho]; exact lc_ok hK h
theorem ss_setLc {i : Nat} {y : Str} {elt iter : Expr} {ifs : List Expr} {scope : Scope} {own : List (Str × Nat)} {wi : Env → Sto → (List D → (Sto → Prop) → Sto → Prop) → QX → Prop} {wt : Env → Sto → (Bool → Sto → Prop) → Prop} {we : WE0} {t : Tg} (hK : Z.K = X.K) (hc : X.calm = true) (hN : X.N.Nodup)
    (hy : X.N[i]? = some y) (hyl : X.env.scope.names.lookup y = some .local) (hsw : swapsWith (.ListComp elt [⟨tg, iter, ifs, 0⟩] scope pos) (some (.Name y p)) apos.line X.env = pure true)
    (hi : SI X Z W tg iter wi) (ok : BlkOk X.N X.env.scope scope own) (ho : own.map (·.2) = t.slots)
    (hg : ∀ (s : Shared) (H : Hp) (C : Addr) (cl : List (Str × Addr)) (fp : List Addr), PG (X.blk s H scope (compEnvC scope cl C X.env) fp) tg (gTg X.K t)) (ht : ∀ (s : Shared) (H : Hp) (C : Addr) (cl : List (Str × Addr)) (fp : List Addr), SC (X.blk s H scope (compEnvC scope cl C X.env) fp) Z ifs wt)
    (he : ∀ (s : Shared) (H : Hp) (C : Addr) (cl : List (Str × Addr)) (fp : List Addr), SE (X.blk s H scope (compEnvC scope cl C X.env) fp) Z W0 elt we) (hs : ∀ x, foldedSetIterable iter X.env x = pure x) :
    SS X Z W (.Assign [.Name y p] (.ListComp elt [⟨tg, iter, ifs, 0⟩] scope pos) apos) (fun K Xf σ S => (fun σ S Q E => wi σ S (fun ds live S1 => ∀ p, S1 p = none → goW live (fun d K S2 => match tgW t d σ with | some σ' => wt σ' S2 (fun ok S3 => if ok then we σ' S3 (fun y S4 => ∃ acc, S4 p = some (.lst acc) ∧ acc.length < sizeLine ∧ K (S4.upd p (.lst (acc ++ [y])))) (fun _ _ => False) else K S3) | none => False) ds (S1.upd p (.lst [])) (fun S5 => Q (.ref p) S5)) E) σ S (fun d S1 => K.nx (σ.set i (some d)) S1) (fun x S1 => Xf x σ S1)) :=
  PS.imp (ps_setLc hc hN hy hyl hsw hi ok hg ht he hs) fun D τ H ⟨σ, S, K, Xf, er, sr, w, kd, kx⟩ => by
    rw [ho]
    refine lc_ok hK ⟨σ, S, fun d S1 => K.nx (σ.set i (some d)) S1, _, er, sr, w, fun d v S1 H1 k1 sr1 r w1 => ?_, kx.kx er⟩
    exact kd.nx _ S1 _ H1 k1 ((er.keep k1).set i r) sr1 w1
/-! ### enumerate, zip -/
theorem wlk_enum {H : Hp} {S : Sto} {a : Addr} {ds : List D} (hK : Z.K = X.K) (e : rd S a = some ds) : Wlk Z H (Ite X.K a) (enumD ds) (liveL a ds) where
  go := fun i S H k sr l hi => by
    obtain ⟨vs, sq, rs⟩ := rdAt (K := X.K) sr l
    have hl := rs.length
    have hi' : i < vs.length := by unfold enumD at hi; simp at hi; omega
    exact ⟨vs, vs[i]'hi', sq, by simp⟩
  stop := fun S H k sr l => by
    obtain ⟨vs, sq, rs⟩ := rdAt (K := X.K) sr l
    exact ⟨vs, sq, by rw [← rs.length]; unfold enumD; simp⟩
  yld := fun i S H x H' d k sr l hd y => by
    obtain ⟨T, x0, rfl, hT, rfl, y⟩ := y
    obtain ⟨vs, sq, rs⟩ := rdAt (K := X.K) sr l
    have hi : i < ds.length := by
      have := (List.getElem?_eq_some_iff.mp hd).1
      unfold enumD at this; simp at this; omega
    have hd' : d = .tup [.int i, ds[i]] := by
      unfold enumD at hd
      rw [List.getElem?_map, List.getElem?_zip_eq_some (z := (i, ds[i])) |>.mpr ⟨by simp [hi], by simp⟩] at hd
      exact (Option.some.inj hd).symm
    subst hd'
    obtain ⟨v, h1, h2⟩ := rs.get (List.getElem?_eq_getElem hi)
    rw [y vs sq] at h1
    cases h1
    exact ⟨TK.new hT, new_same hT, .tup (.inl upd_same) (.cons .int (.cons (h2.keep (TK.new hT)) .nil))⟩
theorem si_enum {elts : List Expr} {kk : Nat} {tp : Pos} (hK : Z.K = X.K) (hg : Gl X "enumerate") (hm : X.mg "enumerate" = none) (ha : SE X Z W a₀ wa) (hs : starEach [a₀] X.env = [(false, eval a₀ X.env)]) (hs2 : starEach [a₀] X.env = (false, eval a₀ X.env) :: starEach [] X.env) :
    SI X Z W (.Tuple elts kk tp) (.Call (.Name "enumerate" p) [a₀] [] pos) (fun σ S R E => wa σ S (fun x S1 => lsW x S1 (fun ds l => R (enumD ds) l S1)) E) :=
  PI.imp (pi_enum hg hm (pa_cons ha pa_nil hs2) hs) fun τ H R ⟨σ, S, Ra, E, er, sr, w, r, qe⟩ => by
    refine ⟨σ, S, _, E, er, sr, w, fun d v S1 H1 k1 sr1 rd1 w1 => ?_, qe⟩
    unfold lsW at w1
    dsimp only at w1
    split at w1
    · rename_i a
      cases rd1
      obtain ⟨ds, e, w1⟩ := w1
      obtain ⟨vs, sq, rs⟩ := rdAt (K := X.K) sr1 e
      exact ⟨a, vs, rfl, sq, r _ _ _ _ _ k1 sr1 (wlk_enum hK e) w1⟩
    · exact w1.elim
theorem wlk_zip {H : Hp} {a b : Addr} {ds es : List D} (hK : Z.K = X.K) : Wlk Z H (Itz X.K a b) (zipD ds es) (fun S' => liveL a ds S' ∧ liveL b es S') where
  go := fun i S H k sr l hi => by
    obtain ⟨vs, sq, rs⟩ := rdAt (K := X.K) sr l.1
    obtain ⟨us, sq2, rs2⟩ := rdAt (K := X.K) sr l.2
    have hl := rs.length
    have hl2 := rs2.length
    have hi' : i < vs.length ∧ i < us.length := by unfold zipD at hi; simp at hi; omega
    exact ⟨vs, us, vs[i]'hi'.1, us[i]'hi'.2, sq, sq2, by simp, by simp⟩
  stop := fun S H k sr l => by
    obtain ⟨vs, sq, rs⟩ := rdAt (K := X.K) sr l.1
    obtain ⟨us, sq2, rs2⟩ := rdAt (K := X.K) sr l.2
    have hl := rs.length
    have hl2 := rs2.length
    exact ⟨vs, us, sq, sq2, by unfold zipD; simp; omega⟩
  yld := fun i S H x H' d k sr l hd y => by
    obtain ⟨T, x0, y0, rfl, hT, rfl, yx, yy⟩ := y
    obtain ⟨vs, sq, rs⟩ := rdAt (K := X.K) sr l.1
    obtain ⟨us, sq2, rs2⟩ := rdAt (K := X.K) sr l.2
    unfold zipD at hd
    rw [List.getElem?_map] at hd
    cases e : (ds.zip es)[i]? with
    | none => rw [e] at hd; cases hd
    | some pr =>
      rw [e] at hd
      cases hd
      obtain ⟨e1, e2⟩ := List.getElem?_zip_eq_some.mp e
      obtain ⟨v, h1, h2⟩ := rs.get e1
      obtain ⟨u, h3, h4⟩ := rs2.get e2
      rw [yx vs sq] at h1
      rw [yy us sq2] at h3
      cases h1; cases h3
      exact ⟨TK.new hT, new_same hT, .tup (.inl upd_same) (.cons (h2.keep (TK.new hT)) (.cons (h4.keep (TK.new hT)) .nil))⟩
theorem si_zip {elts : List Expr} {kk : Nat} {tp : Pos} (hK : Z.K = X.K) (hg : Gl X "zip") (hm : X.mg "zip" = none) (ha : SE X Z W a₀ wa) (hb : SE X Z W b₀ wb) (hs : starEach [a₀, b₀] X.env = (false, eval a₀ X.env) :: starEach [b₀] X.env) (hs2 : starEach [b₀] X.env = (false, eval b₀ X.env) :: starEach [] X.env)
    (hpl : (backTo pos (starEach [b₀] X.env)).any (·.1) = false) :
    SI X Z W (.Tuple elts kk tp) (.Call (.Name "zip" p) [a₀, b₀] [] pos) (fun σ S R E => wa σ S (fun x S1 => wb σ S1 (fun y S2 => lsW x S2 (fun ds l => lsW y S2 (fun es l2 => R (zipD ds es) (fun S' => l S' ∧ l2 S') S2))) E) E) :=
  PI.imp (pi_zip hg hm (pa_cons ha (pa_cons hb pa_nil hs2) hs) hs hpl) fun τ H R ⟨σ, S, Ra, E, er, sr, w, r, qe⟩ => by
    refine two_ok (R := fun x y H2 => ∃ (a b : Addr) (xs ys : List V), ([x, y] : List V) = [.ref a, .ref b] ∧ SqL X.K H2 a xs ∧ SqL X.K H2 b ys ∧ R (Itz X.K a b) H2) er sr w qe fun {S2 H2 x y v u} k sr' rx ry h => ?_
    unfold lsW at h
    split at h
    · rename_i a
      obtain ⟨ds, e1, h⟩ := h
      split at h
      · rename_i b
        obtain ⟨es, e2, h⟩ := h
        cases rx; cases ry
        obtain ⟨vs, sq, rs⟩ := rdAt (K := X.K) sr' e1
        obtain ⟨us, sq2, rs2⟩ := rdAt (K := X.K) sr' e2
        exact ⟨a, b, vs, us, rfl, sq, sq2, r _ _ _ _ _ k sr' (wlk_zip hK) h⟩
      · exact h.elim
    · exact h.elim
/-! ### dict displays, dict comprehensions -/
/-- the pairs of a display -/
def SPs (X : Cx) (Z : Nm) (W : WX) (pos : Pos) (keys : List (Option Expr)) (vals : List Expr) (w : Env → Sto → (List (Ky × D) → Sto → Prop) → QX → Prop) : Prop :=
  ∀ (pins : List (Addr × Obj)) (s : Shared) (τ : St) (H : Hp) (Q : List (Key × V) → Hp → Prop), Inv X pins τ H s → (∃ σ S Qa E, ER Z H σ τ ∧ SR Z S H ∧ w σ S Qa E ∧ (∀ kvs gs S' H', TK H H' → SR Z S' H' → RK Z H' kvs gs → Qa kvs S' → Q gs H') ∧ Kx Z W τ H E) →
    wpAny (model X.prog X.w) X.A (evalPairs (pairTrees keys vals X.env pos)) (fun vs s' => ∃ gs H', Inv X pins τ H' s' ∧ VV (gs.map fun (kv : Key × V) => (kV kv.1, kv.2)) vs ∧ Q gs H') X.xe s
theorem sp_nil : SPs X Z W pos [] [] (fun _ S Q _ => Q [] S) := fun pins s τ H Q I ⟨σ, S, Qa, E, er, sr, w, q, qe⟩ => pairTrees_nil_walk ⟨[], H, I, .nil, q [] [] S H (TK.refl H) sr .nil w⟩
theorem kyOf_rd {H : Hp} {d : D} {v : V} {ky : Ky} (r : RD Z H d v) (h : kyOf d = some ky) : v = kV (kyS ky) := by
  cases d <;> simp only [kyOf] at h <;> first | (cases h; cases r; rfl) | cases h
theorem sp_cons {ks : List (Option Expr)} {vs : List Expr} {wr : Env → Sto → (List (Ky × D) → Sto → Prop) → QX → Prop} (hk : SE X Z W a₀ wa) (hv : SE X Z W b₀ wb) (hr : SPs X Z W pos ks vs wr) :
    SPs X Z W pos (some a₀ :: ks) (b₀ :: vs) (fun σ S Q E => wa σ S (fun x S1 => wb σ S1 (fun y S2 => wr σ S2 (fun kvs S3 => ∃ ky, kyOf x = some ky ∧ Q ((ky, y) :: kvs) S3) E) E) E) := fun pins s τ H Q I ⟨σ, S, Qa, E, er, sr, w, q, qe⟩ => by
  refine pairTrees_cons_walk (thn (hk.run pins s τ H (fun v H1 => TK H H1 ∧ ∃ d S1, SR Z S1 H1 ∧ RD Z H1 d v ∧ wb σ S1 (fun y S2 => wr σ S2 (fun kvs S3 => ∃ ky, kyOf d = some ky ∧ Qa ((ky, y) :: kvs) S3) E) E) I
    ⟨σ, S, _, E, er, sr, w, fun d v S1 H1 k1 sr1 rd1 w1 => ⟨k1, d, S1, sr1, rd1, w1⟩, qe⟩) fun u s1 ⟨x, H1, I1, rx, k1, d, S1, sr1, rd1, w1⟩ => ?_)
  refine thn (hv.run pins s1 τ H1 (fun v H2 => TK H1 H2 ∧ ∃ e S2, SR Z S2 H2 ∧ RD Z H2 e v ∧ wr σ S2 (fun kvs S3 => ∃ ky, kyOf d = some ky ∧ Qa ((ky, e) :: kvs) S3) E) I1
    ⟨σ, S1, _, E, er.keep k1, sr1, w1, fun e v S2 H2 k2 sr2 rd2 w2 => ⟨k2, e, S2, sr2, rd2, w2⟩, qe.keep k1⟩) fun u2 s2 ⟨y, H2, I2, ry, k2, e, S2, sr2, rd2, w2⟩ => ?_
  refine thn (hr pins s2 τ H2 (fun gs H3 => TK H2 H3 ∧ ∃ kvs S3, SR Z S3 H3 ∧ RK Z H3 kvs gs ∧ ∃ ky, kyOf d = some ky ∧ Qa ((ky, e) :: kvs) S3) I2
    ⟨σ, S2, _, E, (er.keep k1).keep k2, sr2, w2, fun kvs gs S3 H3 k3 sr3 rk w3 => ⟨k3, kvs, S3, sr3, rk, w3⟩, (qe.keep k1).keep k2⟩) fun ws s3 ⟨gs, H3, I3, rel, k3, kvs, S3, sr3, rk, ky, hky, w3⟩ => ?_
  have ex := kyOf_rd rd1 hky
  subst ex
  exact ⟨(kyS ky, y) :: gs, H3, I3, .cons ⟨rx, ry⟩ rel, q _ _ S3 H3 ((k1.trans k2).trans k3) sr3 (.cons (rd2.keep k3) rk) w3⟩
theorem RK.merge {H : Hp} : ∀ (more : List (Ky × D)) (kvs : List (Ky × D)) (gs hs : List (Key × V)), RK Z H more gs → RK Z H kvs hs → RK Z H (dmerge kvs more) (mergeK hs gs)
  | [], kvs, gs, hs, q, r => by cases q; exact r
  | (k, d) :: more, kvs, gs, hs, q, r => by
    cases q with
    | cons q0 t =>
      have z := RK.merge more (dput kvs k d) _ _ t (r.put q0 k)
      exact z
theorem se_dct {keys : List (Option Expr)} {vals : List Expr} {ws : Env → Sto → (List (Ky × D) → Sto → Prop) → QX → Prop} (h : SPs X Z W pos keys vals ws) (hall : keys.all (·.isSome) = true) (hl : keys.length = vals.length) (h0 : keys ≠ []) (h15 : keys.length ≤ 15) :
    SE X Z W (.Dict keys vals pos) (fun σ S Q E => ∀ p, S p = none → ws σ (S.upd p (.dct [])) (fun kvs S1 => S1 p = some (.dct []) ∧ kvs.length ≤ 15 ∧ Q (.ref p) (S1.upd p (.dct (dmerge [] kvs)))) E) := by
  refine ⟨fun pins s τ H Q I ⟨σ, S, Qa, E, er, sr, w, q, qe⟩ => ?_⟩
  have hn := I.hok.fresh (Nat.le_refl s.heap.objs.size)
  have I1 := I.laid (a := s.heap.objs.size) (o := .dK []) (h' := s.heap.push { cls := .type "dict", data := .dict #[] }) (t' := s.toks) (fun _ _ q => Heap.get?_push_of_some _ q) (Nat.le_refl _) (dk_empty s.heap I.big)
  have tk0 : TK H (upd H s.heap.objs.size (.dK [])) := TK.new hn
  have sr1 : SR Z (S.upd s.heap.objs.size (.dct [])) (upd H s.heap.objs.size (.dK [])) := sr.put (c := .dct []) tk0 ⟨[], upd_same, .nil⟩
  refine wpAny_Dict_walk (knd := mixKind X.prog X.w) hall hl h0 h15 (thn (h pins _ τ _ (fun gs H2 => TK H H2 ∧ ∃ kvs S2, SR Z S2 H2 ∧ RK Z H2 kvs gs ∧ S2 s.heap.objs.size = some (.dct []) ∧ kvs.length ≤ 15 ∧ Qa (.ref s.heap.objs.size) (S2.upd s.heap.objs.size (.dct (dmerge [] kvs)))) I1
    ⟨σ, _, _, E, er.keep tk0, sr1, w _ (sr.free hn), fun kvs gs S2 H2 k2 sr2 rk w2 => ⟨tk0.trans k2, kvs, S2, sr2, rk, w2⟩, qe.keep tk0⟩) fun ws s2 ⟨gs, H2, I2, rel, k2, kvs, S2, sr2, rk, ed, hz15, w2⟩ => ?_)
  obtain ⟨gs0, e, r00⟩ := sr2 _ _ ed
  cases r00
  obtain ⟨rs, c, rkv⟩ := carries_of (P := X.prog) (w := X.w) rel
  obtain ⟨z, hd, vs0, r0, dd⟩ := dk_of I2.hok e
  cases r0
  have lk : gs.length ≤ 15 := by rw [← rk.length]; exact hz15
  have tk2 : TK H2 (upd H2 s.heap.objs.size (.dK (mergeK [] gs))) := TK.mut e True.intro
  refine ⟨rs, c, dd, fun h' dd' hs => ⟨.ref s.heap.objs.size, _, ?_, rfl, q _ _ _ _ (k2.trans tk2) (sr2.put (c := .dct (dmerge [] kvs)) tk2 ⟨_, upd_same, (RK.merge _ _ _ _ rk .nil).keep tk2⟩) .ref w2⟩⟩
  have hz : (mergeK [] gs).length ≤ sizeLine := by
    have h1 := length_mergeK gs []
    rw [List.length_nil] at h1
    rw [sizeLine_eq]; omega
  have he : ∃ q, h'.get? s.heap.objs.size = some q := let ⟨q, _, _, hq, _⟩ := dd'; ⟨q, hq⟩
  exact d_write I2 (by rw [e]; exact True.intro) hs he (dk_new hz hd (rkv.merge .nil) dd')
theorem se_dct0 : SE X Z W (.Dict [] [] pos) (fun _ S Q _ => ∀ p, S p = none → (S.upd p (.dct [])) p = some (.dct []) ∧ ([] : List (Ky × D)).length ≤ 15 ∧ Q (.ref p) ((S.upd p (.dct [])).upd p (.dct (dmerge [] [])))) :=
  PE.imp pe_dnewK fun τ H Q ⟨σ, S, Qa, E, er, sr, w, q, qe⟩ => q.newK sr .nil fun p hp => by
    have := (w p hp).2.2
    have e : (S.upd p (.dct [])).upd p (.dct (dmerge [] [])) = S.upd p (.dct []) := by
      funext b
      unfold Sto.upd
      split <;> rfl
    rw [e] at this
    exact this
/-- d = {k: v for ..} -/
theorem dc_ok {wi : Env → Sto → (List D → (Sto → Prop) → Sto → Prop) → QX → Prop} {wt : Env → Sto → (Bool → Sto → Prop) → Prop} {wk we : WE0} {t : Tg} {τ : St} {H : Hp} {Q : VK} (hK : Z.K = X.K)
    (h : TEx Z W (fun σ S Q E => wi σ S (fun ds live S1 => ∀ p, S1 p = none → goW live (fun d K S2 => match tgW t d σ with | some σ' => wt σ' S2 (fun ok S3 => if ok then wk σ' S3 (fun y S4 => we σ' S4 (fun z S5 => ∃ kvs ky, kyOf y = some ky ∧ S5 p = some (.dct kvs) ∧ kvs.length < sizeLine ∧ K (S5.upd p (.dct (dput kvs ky z)))) (fun _ _ => False)) (fun _ _ => False) else K S3) | none => False) ds (S1.upd p (.dct [])) (fun S5 => Q (.ref p) S5)) E) τ H Q) :
    tDc (TIx Z W wi) (gTg X.K t) (TTx Z W0 fun σ S Q _ => wt σ S Q) (TEx Z W0 wk) (TEx Z W0 we) t.slots τ H Q := by
  obtain ⟨σ, S, Qa, E, er, sr, w, q, qe⟩ := h
  refine ⟨σ, S, _, E, er, sr, w, fun ds live S0 H0 J k0 sr0 wlk w0 D hD => ?_, qe⟩
  have w1 := w0 D (sr0.free hD)
  have tkD : TK H0 (upd H0 D (.dK [])) := TK.new hD
  refine ⟨fun i m H' => m = ds.length - i ∧ i ≤ ds.length ∧ TK (upd H0 D (.dK [])) H' ∧ ∃ S, SR Z S H' ∧ goW live (fun d K S2 => match tgW t d σ with | some σ' => wt σ' S2 (fun ok S3 => if ok then wk σ' S3 (fun y S4 => we σ' S4 (fun z S5 => ∃ kvs ky, kyOf y = some ky ∧ S5 D = some (.dct kvs) ∧ kvs.length < sizeLine ∧ K (S5.upd D (.dct (dput kvs ky z)))) (fun _ _ => False)) (fun _ _ => False) else K S3) | none => False) (ds.drop i) S (fun S5 => Qa (.ref D) S5),
    ⟨_, rfl, Nat.zero_le _, TK.refl _, _, sr0.put (c := .dct []) tkD ⟨[], upd_same, .nil⟩, w1⟩, ?_⟩
  rintro i m H1 ⟨rfl, hi, k1, S1, sr1, w1⟩
  have kk1 := tkD.trans k1
  by_cases hlt : i < ds.length
  · rw [List.drop_eq_getElem_cons hlt] at w1
    obtain ⟨lv, w1⟩ := w1
    refine .inr ⟨wlk.go i S1 H1 kk1 sr1 lv hlt, fun H' => TK (upd H0 D (.dK [])) H' ∧ ∃ S, SR Z S H' ∧ goW live (fun d K S2 => match tgW t d σ with | some σ' => wt σ' S2 (fun ok S3 => if ok then wk σ' S3 (fun y S4 => we σ' S4 (fun z S5 => ∃ kvs ky, kyOf y = some ky ∧ S5 D = some (.dct kvs) ∧ kvs.length < sizeLine ∧ K (S5.upd D (.dct (dput kvs ky z)))) (fun _ _ => False)) (fun _ _ => False) else K S3) | none => False) (ds.drop (i + 1)) S (fun S5 => Qa (.ref D) S5),
      fun H' h => ⟨_, by omega, rfl, hlt, h.1, h.2⟩, fun x H2 y => ?_⟩
    obtain ⟨k2, sm, rx⟩ := wlk.yld i S1 H1 x H2 _ kk1 sr1 lv (List.getElem?_eq_getElem hlt) y
    dsimp only at w1
    split at w1
    · rename_i σ2 e
      have er2 : ER Z H2 σ τ := er.keep ((k0.trans kk1).trans k2)
      refine gTg_okw hK (tgW_wipe e) rx (er2.wipe t.slots) fun τ2 er3 hw => ⟨hw.trans wipe_wipe, ?_⟩
      refine ⟨σ2, S1, _, _, er3, sr1.same sm, w1, fun ok S3 H3 k3 sr3 w3 => ?_, fun _ _ _ _ _ _ _ _ z => z⟩
      cases ok with
      | false => exact ⟨(k1.trans k2).trans k3, S3, sr3, w3⟩
      | true =>
        refine ⟨σ2, S3, _, _, er3.keep k3, sr3, w3, fun dy yv S4 H4 k4 sr4 ry w4 => ?_, fun _ _ _ _ _ _ _ _ z => z⟩
        refine ⟨σ2, S4, _, _, (er3.keep k3).keep k4, sr4, w4, fun dz zv S5 H5 k5 sr5 rz ⟨kvs, ky, eky, ea, hl, w5⟩ => ?_, fun _ _ _ _ _ _ _ _ z => z⟩
        obtain ⟨gs, hq, rs⟩ := sr5 _ _ ea
        have tk : TK H5 (upd H5 D (.dK (putK gs (kyS ky) zv))) := TK.mut hq True.intro
        refine ⟨gs, kyS ky, kyOf_rd ry eky, hq, by rw [← rs.length]; exact hl, (((((k1.trans k2).trans k3).trans k4).trans k5).trans tk), _, sr5.put (c := .dct (dput kvs ky dz)) tk ⟨_, upd_same, (rs.put rz ky).keep tk⟩, w5⟩
    · exact w1.elim
  · have e : i = ds.length := by omega
    subst e
    rw [List.drop_length] at w1
    exact .inl ⟨wlk.stop S1 H1 kk1 sr1 w1.1, q (.ref D) (.ref D) S1 H1 (k0.trans kk1) sr1 .ref w1.2⟩
theorem se_dc {kx vx iter : Expr} {ifs : List Expr} {scope : Scope} {own : List (Str × Nat)} {wi : Env → Sto → (List D → (Sto → Prop) → Sto → Prop) → QX → Prop} {wt : Env → Sto → (Bool → Sto → Prop) → Prop} {wk we : WE0} {t : Tg} (hK : Z.K = X.K) (hc : X.calm = true) (hN : X.N.Nodup)
    (hi : SI X Z W tg iter wi) (ok : BlkOk X.N X.env.scope scope own) (ho : own.map (·.2) = t.slots)
    (hg : ∀ (s : Shared) (H : Hp) (C : Addr) (cl : List (Str × Addr)) (fp : List Addr), PG (X.blk s H scope (compEnvC scope cl C X.env) fp) tg (gTg X.K t)) (ht : ∀ (s : Shared) (H : Hp) (C : Addr) (cl : List (Str × Addr)) (fp : List Addr), SC (X.blk s H scope (compEnvC scope cl C X.env) fp) Z ifs wt)
    (hk : ∀ (s : Shared) (H : Hp) (C : Addr) (cl : List (Str × Addr)) (fp : List Addr), SE (X.blk s H scope (compEnvC scope cl C X.env) fp) Z W0 kx wk)
    (he : ∀ (s : Shared) (H : Hp) (C : Addr) (cl : List (Str × Addr)) (fp : List Addr), SE (X.blk s H scope (compEnvC scope cl C X.env) fp) Z W0 vx we) (hs : ∀ x, foldedSetIterable iter X.env x = pure x) :
    SE X Z W (.DictComp kx vx [⟨tg, iter, ifs, 0⟩] scope pos) (fun σ S Q E => wi σ S (fun ds live S1 => ∀ p, S1 p = none → goW live (fun d K S2 => match tgW t d σ with | some σ' => wt σ' S2 (fun ok S3 => if ok then wk σ' S3 (fun y S4 => we σ' S4 (fun z S5 => ∃ kvs ky, kyOf y = some ky ∧ S5 p = some (.dct kvs) ∧ kvs.length < sizeLine ∧ K (S5.upd p (.dct (dput kvs ky z)))) (fun _ _ => False)) (fun _ _ => False) else K S3) | none => False) ds (S1.upd p (.dct [])) (fun S5 => Q (.ref p) S5)) E) :=
  PE.imp (pe_dc hc hN hi ok hg ht hk he hs) fun τ H Q h => by rw [ho]; exact dc_ok hK h
end
end Mini
end L2
/-! Mini, part N: the rules, over the small language -/
namespace L2
namespace Mini
open PySem PySem.Spec PyProof.Rows
/-- a written dict with text keys -/
inductive KEs (Z : Nm) : List DictEntry → List (List Nat × D) → Prop
  | nil : KEs Z [] []
  | cons {e : DictEntry} {x : Str} {t : Tok} {l : List Nat} {v : V} {d : D} {es : List DictEntry} {kvs : List (List Nat × D)} : e.key = .str x t → x = st l → RelV v e.val → (∀ H, RD Z H d v) → KEs Z es kvs → KEs Z (e :: es) ((l, d) :: kvs)
theorem KEs.find {Z : Nm} {es : List DictEntry} {kvs : List (List Nat × D)} (h : KEs Z es kvs) (l : List Nat) :
    (∃ e d v, es.find? (fun e => e.key.isStr (st l)) = some e ∧ kvs.lookup l = some d ∧ RelV v e.val ∧ ∀ H, RD Z H d v) ∨ (es.find? (fun e => e.key.isStr (st l)) = none ∧ kvs.lookup l = none ∧ es.any (·.refKey) = false) := by
  induction h with
  | nil => exact .inr ⟨rfl, rfl, rfl⟩
  | @cons e x t k v d es kvs ek ex r rd _ ih =>
    have e1 : e.key.isStr (st l) = decide (l = k) := by
      rw [ek, ex]
      show (st k == st l) = _
      by_cases c : l = k
      · subst c; simp
      · rw [decide_eq_false c]
        exact beq_eq_false_iff_ne.mpr fun h => c (st_inj h).symm
    rw [List.find?_cons, e1, List.lookup_cons]
    by_cases c : l = k
    · subst c
      simp only [decide_true, beq_self_eq_true]
      exact .inl ⟨e, d, v, rfl, rfl, r, rd⟩
    · rw [decide_eq_false c, beq_eq_false_iff_ne.mpr c]
      rcases ih with ⟨e', d', v', h1, h2, h3, h4⟩ | ⟨h1, h2, h3⟩
      · exact .inl ⟨e', d', v', h1, h2, h3, h4⟩
      · refine .inr ⟨h1, h2, ?_⟩
        rw [List.any_cons, h3, Bool.or_false]
        unfold DictEntry.refKey
        rw [ek]
structure Kdw (K : PySem.W.Frag) (Z : Nm) (P : Params) (d : Addr) (es : Array DictEntry) (n : Nat) (kvs : List (List Nat × D)) : Prop where
  at_ : K.lookup d = some ⟨.type "dict", none, .dict es n, #[]⟩
  lit : PySem.W.KeysLit P es.toList
  low : (d == sysModules) = false
  ks : KEs Z es.toList kvs
theorem Kdw.look {K : PySem.W.Frag} {Z : Nm} {P : Params} {d : Addr} {es : Array DictEntry} {n : Nat} {kvs : List (List Nat × D)} (h : Kdw K Z P d es n kvs) (l : List Nat) :
    (∃ u t v, PySem.W.nsIn K d (st l) = some (some u) ∧ kvs.lookup l = some t ∧ RelV v u ∧ ∀ H, RD Z H t v) ∨ (PySem.W.nsIn K d (st l) = some none ∧ kvs.lookup l = none) := by
  unfold PySem.W.nsIn
  rw [h.at_]
  dsimp only
  rcases h.ks.find l with ⟨e, t, v, h1, h2, h3, h4⟩ | ⟨h1, h2, h3⟩
  · rw [h1]
    exact .inl ⟨e.val, t, v, rfl, h2, h3, h4⟩
  · rw [h1]
    refine .inr ⟨?_, h2⟩
    dsimp only
    rw [h3]
    rfl
/-- names of the top: functions, classes; names it leaves to the built-ins -/
structure Tab (K : PySem.W.Frag) (mg : Str → Option Value) (Z : Nm) (G : Gam) : Prop where
  nf : G.nfn = Z.nfn
  xf : G.xfl = Z.xfl
  fn : ∀ i, i < Z.nfn → mg (Z.fnn i) = some (.ref (Z.fa i)) ∧ PySem.W.keepIn K (.ref (Z.fa i)) = true
  cl : ∀ c, c < Z.nx → mg (Z.cln c) = some (.ref (Z.cla c)) ∧ PySem.W.keepIn K (.ref (Z.cla c)) = true
  no : ∀ x, x ∈ Z.nob → mg x = none
  con : ∀ j x d, Z.con j = some (x, d) → ∃ v u, mg x = some u ∧ RelV v u ∧ ∀ H, RD Z H d v
  kdc : ∀ j x kvs, Z.kdc j = some (x, kvs) → ∃ P d es n, Z.par = some P ∧ mg x = some (.ref d) ∧ Kdw K Z P d es n kvs
  no0 : ∀ c, Z.ni c = true → c < Z.nc ∧ PySem.W.makesIn K (Z.cla c) = true ∧ PySem.W.findIn K (.ref (Z.cla c)) "__init__" = some (some (.builtin "object.__init__"))
theorem ltb {i n : Nat} (h : Nat.blt i n = true) : i < n := Nat.le_of_ble_eq_true h
theorem inb {x : Str} {l : List Str} (h : l.contains x = true) : x ∈ l := by simpa using h
structure Mx (X : Cx) (Z : Nm) (G : Gam) (k : Nat) (W : WX) (t : Bool) : Prop where
  F : FX X Z G k
  T : Tab X.K X.mg Z G
  tk : Takes X W
  calm : X.calm = true
  nd : X.N.Nodup
  hp : PassesOwn (model X.prog X.w) X.A X.env X.xe
  ind : t = false → ∀ c d τ τ' H, W c d τ H → W c d τ' H
section
variable {X : Cx} {Z : Nm} {G : Gam} {k : Nat} {W : WX} {t : Bool} {a₀ b₀ c₀ e₀ tg : Expr} {es₀ : List Expr} {ia ib ic ie : Ex} {is : Exs} {pos apos p : Pos}
def ME (X : Cx) (Z : Nm) (G : Gam) (W : WX) (e : Expr) (i : Ex) : Prop := SE X Z W e (wpE G i)
def MT (X : Cx) (Z : Nm) (G : Gam) (W : WX) (e : Expr) (i : Ex) : Prop := SEt X Z W e (toT (wpE G i))
def MW (X : Cx) (Z : Nm) (G : Gam) (W : WX) (e : Expr) (i : Ex) : Prop := SWt X Z W e (toT (wpE G i))
def MA (X : Cx) (Z : Nm) (G : Gam) (W : WX) (es : List Expr) (is : Exs) : Prop := SAs X Z W es (wpEs G is)
def MO (X : Cx) (Z : Nm) (G : Gam) (W : WX) (e : Option Expr) (i : Exo) : Prop := SO X Z W e (wpO G i)
def MC (X : Cx) (Z : Nm) (G : Gam) (es : List Expr) (i : Exo) : Prop := SC X Z es (wpC G i)
def MI (X : Cx) (Z : Nm) (G : Gam) (W : WX) (tg e : Expr) (i : Itr) : Prop := SI X Z W tg e (wpI G i)
def MS (X : Cx) (Z : Nm) (G : Gam) (W : WX) (s : Stmt) (i : Stm) : Prop := SS X Z W s (wpS G i)
def MB (X : Cx) (Z : Nm) (G : Gam) (W : WX) (s : List Stmt) (i : Stms) : Prop := SSs X Z W s (wpSs G i)
/-! ### expressions -/
theorem me_var (M : Mx X Z G k W t) (i : Nat) {x : Str} (hN : X.N[i]? = some x := by rfl) (hv : Vis X.env.scope x := by first | exact Or.inl rfl | exact Or.inr (Or.inl rfl) | exact Or.inr (Or.inr rfl)) (hd : (x == ("__debug__" : Str)) = false := by decide +kernel)
    (hcd : (x == ("__classdict__" : Str)) = false := by decide +kernel) : ME X Z G W (.Name x p) (.var i) := se_var hN hv hd hcd
theorem me_int (M : Mx X Z G k W t) {n : Int} {j : Nat} : ME X Z G W (.Constant (.int n) j p) (.lit (.int n)) := se_con pe_int fun _ => .int
theorem me_bl (M : Mx X Z G k W t) {b : Bool} {j : Nat} : ME X Z G W (.Constant (.bool b) j p) (.lit (.bl b)) := se_con pe_bl fun _ => .bl
theorem me_non (M : Mx X Z G k W t) {j : Nat} : ME X Z G W (.Constant .none j p) (.lit .non) := se_con pe_non fun _ => .non
theorem me_str (M : Mx X Z G k W t) {l : List Nat} {x : Str} {j : Nat} (h : x = st l := by decide +kernel) : ME X Z G W (.Constant (.str x) j p) (.lit (.str l)) := by
  subst h; exact se_con pe_str fun _ => .str
theorem pe_glb {x : Str} {a : Addr} (hg : Gl X x) (hm : X.mg x = some (.ref a)) (hd : (x == ("__debug__" : Str)) = false) : PE X (.Name x p) (tC (.ref a)) := ⟨fun _ _ _ H _ I h => ld_glob I hg hm ⟨.ref a, H, I, rfl, h⟩ hd⟩
/-- a def's name as a value -/
theorem me_fn (M : Mx X Z G k W t) {x : Str} {i : Nat} (hi : Nat.blt i Z.nfn = true := by rfl) (hx : x = Z.fnn i := by rfl) (hg : Gl X x := by rfl) (hd : (x == ("__debug__" : Str)) = false := by decide +kernel) : ME X Z G W (.Name x p) (.lit (.fn i)) :=
  se_con (pe_glb hg (by rw [hx]; exact (M.T.fn i (ltb hi)).1) hd) fun _ => .fn
/-- a constant of the top -/
theorem me_con (M : Mx X Z G k W t) (j : Nat) {x : Str} {d : D} (hc : Z.con j = some (x, d) := by rfl) (hg : Gl X x := by rfl) (hd : (x == ("__debug__" : Str)) = false := by decide +kernel) : ME X Z G W (.Name x p) (.lit d) := by
  obtain ⟨v, u, hm, r, rd⟩ := M.T.con j x d hc
  exact se_con ⟨fun _ _ _ H _ I h => ld_glob I hg hm ⟨v, H, I, r, h⟩ hd⟩ rd
theorem me_kin (M : Mx X Z G k W t) (j : Nat) {x : Str} {kvs : List (List Nat × D)} (ha : ME X Z G W a₀ ia) (hc : Z.kdc j = some (x, kvs) := by rfl) (hp : Z.par = some X.w.params := by rfl) (hg : Gl X x := by rfl) (hd : (x == ("__debug__" : Str)) = false := by decide +kernel) (hm : behindInMarks .In (.Name x p) = false := by first | rfl | exact nomark _) : ME X Z G W (.Compare a₀ [.In] [.Name x p] pos) (.kin false ia kvs) := by
  obtain ⟨P, d, es, n, e1, hn, kd⟩ := M.T.kdc j x kvs hc
  rw [hp] at e1
  cases e1
  have D : KDict X.K X.w d es n := ⟨kd.at_, kd.lit, kd.low⟩
  have hb : PE X (.Name x p) (tC (.ref d)) := ⟨fun _ _ _ H _ I h => ld_glob I hg hn ⟨.ref d, H, I, rfl, h⟩ hd⟩
  refine PE.imp (pe_cmpR (op_in_kd D) ha hb hm) fun τ H Q ⟨σ, S, Qa, E, er, sr, w, q, qe⟩ => ?_
  refine ⟨σ, S, _, E, er, sr, w, fun v u S1 H1 k1 sr1 rd1 w1 => ?_, qe⟩
  dsimp only at w1
  split at w1
  · rename_i l
    cases rd1
    rcases kd.look l with ⟨u, t, v, h1, h2, h3, h4⟩ | ⟨h1, h2⟩
    · refine ⟨st l, _, rfl, rfl, h1, ?_⟩
      rw [h2] at w1
      exact q (.bl true) (.bl true) S1 H1 k1 sr1 .bl w1
    · refine ⟨st l, _, rfl, rfl, h1, ?_⟩
      rw [h2] at w1
      exact q (.bl false) (.bl false) S1 H1 k1 sr1 .bl w1
  · exact w1.elim
theorem me_kix (M : Mx X Z G k W t) (j : Nat) {x : Str} {kvs : List (List Nat × D)} (ha : ME X Z G W a₀ ia) (hc : Z.kdc j = some (x, kvs) := by rfl) (hp : Z.par = some X.w.params := by rfl) (hg : Gl X x := by rfl) (hd : (x == ("__debug__" : Str)) = false := by decide +kernel) (hs : PlainIx a₀ := by intro _ _; rfl) : ME X Z G W (.Subscript (.Name x p) a₀ pos) (.kix kvs ia) := by
  obtain ⟨P, d, es, n, e1, hn, kd⟩ := M.T.kdc j x kvs hc
  rw [hp] at e1
  cases e1
  have hb : PE X (.Name x p) (tC (.ref d)) := ⟨fun _ _ _ H _ I h => ld_glob I hg hn ⟨.ref d, H, I, rfl, h⟩ hd⟩
  refine PE.imp (pe_ix ix_kdict hb ha hs) fun τ H Q ⟨σ, S, Qa, E, er, sr, w, q, qe⟩ => ?_
  refine ⟨σ, S, _, E, er, sr, w, fun v u S1 H1 k1 sr1 rd1 w1 => ?_, qe⟩
  dsimp only at w1
  split at w1
  · rename_i l
    cases rd1
    rcases kd.look l with ⟨u, t, v, h1, h2, h3, h4⟩ | ⟨h1, h2⟩
    · rw [h2] at w1
      exact ⟨d, st l, v, rfl, rfl, ⟨es, n, u, kd.at_, kd.lit, h1, h3⟩, q t v S1 H1 k1 sr1 (h4 _) w1⟩
    · rw [h2] at w1
      exact w1.elim
  · exact w1.elim
theorem me_bin (M : Mx X Z G k W t) {op : Bop} {o : Operator} (ha : ME X Z G W a₀ ia) (hb : ME X Z G W b₀ ib) (ho : o = bopOf op := by rfl) : ME X Z G W (.BinOp a₀ o b₀ pos) (.bin op ia ib) := by subst ho; exact se_bin M.F.zk ha hb
theorem me_cmp (M : Mx X Z G k W t) {op : Cop} {o : CmpOp} (ha : ME X Z G W a₀ ia) (hb : ME X Z G W b₀ ib) (ho : o = copOf op := by rfl) (hm : behindInMarks o b₀ = false := by first | rfl | exact nomark _) : ME X Z G W (.Compare a₀ [o] [b₀] pos) (.cmp op ia ib) := by subst ho; exact se_cmp M.F.zk M.F.hu ha hb hm
theorem mt_cmp (M : Mx X Z G k W t) {op : Cop} {o : CmpOp} (ha : ME X Z G W a₀ ia) (hb : ME X Z G W b₀ ib) (ho : o = copOf op := by rfl) (hm : behindInMarks o b₀ = false := by first | rfl | exact nomark _) : MT X Z G W (.Compare a₀ [o] [b₀] pos) (.cmp op ia ib) := by subst ho; exact st_cmp M.F.zk M.F.hu ha hb hm
theorem me_chn (M : Mx X Z G k W t) {op oq : Cop} {o o2 : CmpOp} (ha : ME X Z G W a₀ ia) (hb : ME X Z G W b₀ ib) (hc : ME X Z G W c₀ ic) (ho : o = copOf op := by rfl) (ho2 : o2 = copOf oq := by rfl) (hm : lastMarks [o, o2] [b₀, c₀] = false := by rfl) : ME X Z G W (.Compare a₀ [o, o2] [b₀, c₀] pos) (.chn op oq ia ib ic) := by subst ho ho2; exact se_chn M.F ha hb hc hm
theorem mt_chn (M : Mx X Z G k W t) {op oq : Cop} {o o2 : CmpOp} (ha : ME X Z G W a₀ ia) (hb : ME X Z G W b₀ ib) (hc : ME X Z G W c₀ ic) (ho : o = copOf op := by rfl) (ho2 : o2 = copOf oq := by rfl) (hm : lastMarks [o, o2] [b₀, c₀] = false := by rfl) : MT X Z G W (.Compare a₀ [o, o2] [b₀, c₀] pos) (.chn op oq ia ib ic) := by subst ho ho2; exact st_chn M.F ha hb hc hm
theorem me_neg (M : Mx X Z G k W t) (ha : ME X Z G W a₀ ia) : ME X Z G W (.UnaryOp .USub a₀ pos) (.neg ia) := se_neg ha
theorem me_not (M : Mx X Z G k W t) (ha : ME X Z G W a₀ ia) : ME X Z G W (.UnaryOp .Not a₀ pos) (.not ia) := se_not M.F.zk ha
theorem me_one (M : Mx X Z G k W t) {op : BoolOp} (ha : ME X Z G W a₀ ia) : ME X Z G W (.BoolOp op [a₀] pos) ia := se_one ha
theorem me_and (M : Mx X Z G k W t) {rest : List Expr} (ha : ME X Z G W a₀ ia) (hb : ME X Z G W (.BoolOp .And (b₀ :: rest) pos) ib) : ME X Z G W (.BoolOp .And (a₀ :: b₀ :: rest) pos) (.and ia ib) := se_and M.F.zk ha hb
theorem me_or (M : Mx X Z G k W t) {rest : List Expr} (ha : ME X Z G W a₀ ia) (hb : ME X Z G W (.BoolOp .Or (b₀ :: rest) pos) ib) : ME X Z G W (.BoolOp .Or (a₀ :: b₀ :: rest) pos) (.or ia ib) := se_or M.F.zk ha hb
theorem mt_of (M : Mx X Z G k W t) (ha : ME X Z G W a₀ ia) (he : ∀ whole, isTrue a₀ X.env whole = (do let v ← whole; standAt a₀.pos; holding [v] (truthy v)) := by intro _; rfl) : MT X Z G W a₀ ia := st_plain M.F.zk ha he
theorem mt_not (M : Mx X Z G k W t) (ha : MT X Z G W a₀ ia) : MT X Z G W (.UnaryOp .Not a₀ pos) (.not ia) := st_not ha
theorem mw_and1 (M : Mx X Z G k W t) (ha : MT X Z G W a₀ ia) : MW X Z G W (.BoolOp .And [a₀] pos) ia := sw_and1 ha
theorem mw_or1 (M : Mx X Z G k W t) (ha : MT X Z G W a₀ ia) : MW X Z G W (.BoolOp .Or [a₀] pos) ia := sw_or1 ha
theorem mw_and (M : Mx X Z G k W t) {rest : List Expr} (ha : MT X Z G W a₀ ia) (hb : MW X Z G W (.BoolOp .And (b₀ :: rest) pos) ib) : MW X Z G W (.BoolOp .And (a₀ :: b₀ :: rest) pos) (.and ia ib) := sw_and ha hb
theorem mw_or (M : Mx X Z G k W t) {rest : List Expr} (ha : MT X Z G W a₀ ia) (hb : MW X Z G W (.BoolOp .Or (b₀ :: rest) pos) ib) : MW X Z G W (.BoolOp .Or (a₀ :: b₀ :: rest) pos) (.or ia ib) := sw_or ha hb
theorem mt_w (M : Mx X Z G k W t) (h : MW X Z G W a₀ ia) : MT X Z G W a₀ ia := SWt.t h
theorem me_ite (M : Mx X Z G k W t) (hc : MT X Z G W c₀ ic) (ha : ME X Z G W a₀ ia) (hb : ME X Z G W b₀ ib) : ME X Z G W (.IfExp c₀ a₀ b₀ pos) (.ite ic ia ib) := se_ite hc ha hb
theorem ma_nil (M : Mx X Z G k W t) : MA X Z G W [] .nil := sa_nil
theorem ma_cons (M : Mx X Z G k W t) {es : List Expr} (ha : ME X Z G W a₀ ia) (hs : MA X Z G W es is) (hst : starEach (a₀ :: es) X.env = (false, eval a₀ X.env) :: starEach es X.env := by rfl) : MA X Z G W (a₀ :: es) (.cons ia is) := sa_cons ha hs hst
theorem me_tup (M : Mx X Z G k W t) {es : List Expr} {kk : Nat} (hs : MA X Z G W es is) : ME X Z G W (.Tuple es kk pos) (.tup is) := se_tup hs
theorem me_lst (M : Mx X Z G k W t) {es : List Expr} (hs : MA X Z G W es is) : ME X Z G W (.List es pos) (.lst is) := se_lst hs
theorem me_ix (M : Mx X Z G k W t) (ha : ME X Z G W a₀ ia) (hb : ME X Z G W b₀ ib) (hp : PlainIx b₀ := by intro _ _; rfl) : ME X Z G W (.Subscript a₀ b₀ pos) (.ix ia ib) := se_ix M.F.zk M.F.hu ha hb hp
theorem mo_none (M : Mx X Z G k W t) : MO X Z G W none .none := so_none
theorem mo_some (M : Mx X Z G k W t) (ha : ME X Z G W a₀ ia) : MO X Z G W (some a₀) (.some ia) := so_some ha
theorem me_slc (M : Mx X Z G k W t) {lo hi : Option Expr} {il ih : Exo} {p2 : Pos} (ha : ME X Z G W a₀ ia) (hl : MO X Z G W lo il) (hh : MO X Z G W hi ih) : ME X Z G W (.Subscript a₀ (.Slice lo hi none p2) pos) (.slc ia il ih) := se_slc M.F.zk ha hl hh
theorem me_att (M : Mx X Z G k W t) {f : Nat} {x : Str} (ha : ME X Z G W a₀ ia) (hf : Nat.blt f Z.nf = true := by rfl) (hx : x = Z.fld f := by rfl) (hb : attributeBase a₀ x X.env (eval a₀ X.env) = eval a₀ X.env := by rfl) : ME X Z G W (.Attribute a₀ x pos) (.att ia f) := se_att M.F (ltb hf) hx ha hb
theorem me_call (M : Mx X Z G k W t) {x : Str} {i : Nat} (ha : MA X Z G W (e₀ :: es₀) is) (hi : Nat.blt i Z.nfn = true := by rfl) (hx : x = Z.fnn i := by rfl) (hg : Gl X x := by rfl) (hdb : (x == ("__debug__" : Str)) = false := by decide +kernel)
    (he : starEach (e₀ :: es₀) X.env = (false, eval e₀ X.env) :: starEach es₀ X.env := by rfl) (hpl : (backTo pos (starEach es₀ X.env)).any (·.1) = false := by rfl) : ME X Z G W (.Call (.Name x p) (e₀ :: es₀) [] pos) (.call i is) := by
  subst hx; exact se_call M.F M.tk hg (M.T.fn i (ltb hi)).1 (M.T.fn i (ltb hi)).2 hdb ha he hpl
theorem me_call0 (M : Mx X Z G k W t) {x : Str} {i : Nat} (hi : Nat.blt i Z.nfn = true := by rfl) (hx : x = Z.fnn i := by rfl) (hg : Gl X x := by rfl) (hdb : (x == ("__debug__" : Str)) = false := by decide +kernel) : ME X Z G W (.Call (.Name x p) [] [] pos) (.call i .nil) := by
  subst hx; exact se_call0 M.F M.tk hg (M.T.fn i (ltb hi)).1 (M.T.fn i (ltb hi)).2 hdb
theorem me_callv (M : Mx X Z G k W t) {x : Str} (j : Nat) (ha : MA X Z G W (e₀ :: es₀) is) (hN : X.N[j]? = some x := by rfl) (hv : Vis X.env.scope x := by first | exact Or.inl rfl | exact Or.inr (Or.inl rfl) | exact Or.inr (Or.inr rfl)) (hd : (x == ("__debug__" : Str)) = false := by decide +kernel) (hcd : (x == ("__classdict__" : Str)) = false := by decide +kernel)
    (he : starEach (e₀ :: es₀) X.env = (false, eval e₀ X.env) :: starEach es₀ X.env := by rfl) (hpl : (backTo pos (starEach es₀ X.env)).any (·.1) = false := by rfl) : ME X Z G W (.Call (.Name x p) (e₀ :: es₀) [] pos) (.callv j is) :=
  se_callv M.F M.tk hN hv hd hcd (fun i hi => (M.T.fn i (by rw [← M.T.nf]; exact hi)).2) ha he hpl
theorem me_bi (M : Mx X Z G k W t) {x : Str} {b : Bi} (ha : MA X Z G W (e₀ :: es₀) is) (hv : bootBuiltins x = some (biF b) := by decide +kernel) (hg : Gl X x := by rfl) (hm : Z.nob.contains x = true := by rfl) (hn : x ≠ "__name__" := by decide +kernel) (hdb : (x == ("__debug__" : Str)) = false := by decide +kernel)
    (hF : (∃ id, biF b = .builtin id) ∨ ∃ T, biF b = .type T := by first | exact Or.inl ⟨_, rfl⟩ | exact Or.inr ⟨_, rfl⟩)
    (he : starEach (e₀ :: es₀) X.env = (false, eval e₀ X.env) :: starEach es₀ X.env := by rfl) (hpl : (backTo pos (starEach es₀ X.env)).any (·.1) = false := by rfl) : ME X Z G W (.Call (.Name x p) (e₀ :: es₀) [] pos) (.bi b is) :=
  se_bi M.F M.calm hg (M.T.no x (inb hm)) hv ha hn hdb hF he hpl
theorem me_isi (M : Mx X Z G k W t) {xI xT : Str} {ty : Ty} {pT : Pos} (ha : ME X Z G W a₀ ia) (hI : xI = "isinstance" := by decide +kernel) (hg : Gl X xI := by rfl) (hm : Z.nob.contains xI = true := by rfl) (hgT : Gl X xT := by rfl) (hmT : Z.nob.contains xT = true := by rfl) (hvT : bootBuiltins xT = some (.type (tyName ty)) := by decide +kernel)
    (hn : xT ≠ "__name__" := by decide +kernel) (hdb : (xT == ("__debug__" : Str)) = false := by decide +kernel) (he : starEach [a₀, .Name xT pT] X.env = (false, eval a₀ X.env) :: starEach [.Name xT pT] X.env := by rfl) : ME X Z G W (.Call (.Name xI p) [a₀, .Name xT pT] [] pos) (.isi ia ty) := by
  subst hI; exact se_isi M.F hg (M.T.no _ (inb hm)) hgT (M.T.no _ (inb hmT)) hvT hn hdb ha he (by decide +kernel)
theorem me_new (M : Mx X Z G k W false) {x : Str} {c : Nat} (ha : MA X Z G W (e₀ :: es₀) is) (hc : Nat.blt c Z.nx = true := by rfl) (hx : x = Z.cln c := by rfl) (hg : Gl X x := by rfl) (hdb : (x == ("__debug__" : Str)) = false := by decide +kernel)
    (he : starEach (e₀ :: es₀) X.env = (false, eval e₀ X.env) :: starEach es₀ X.env := by rfl) (hpl : (backTo pos (starEach es₀ X.env)).any (·.1) = false := by rfl) : ME X Z G W (.Call (.Name x p) (e₀ :: es₀) [] pos) (.new c is) := by
  subst hx; exact se_new M.F M.tk (M.ind rfl) hg (M.T.cl c (ltb hc)).1 (M.T.cl c (ltb hc)).2 hdb ha he hpl
theorem me_new0 (M : Mx X Z G k W false) {x : Str} {c : Nat} (hc : Nat.blt c Z.nx = true := by rfl) (hx : x = Z.cln c := by rfl) (hg : Gl X x := by rfl) (hdb : (x == ("__debug__" : Str)) = false := by decide +kernel) : ME X Z G W (.Call (.Name x p) [] [] pos) (.new c .nil) := by
  subst hx; exact se_new0 M.F M.tk (M.ind rfl) hg (M.T.cl c (ltb hc)).1 (M.T.cl c (ltb hc)).2 hdb
theorem me_newo (M : Mx X Z G k W t) {x : Str} {c : Nat} (hn : Z.ni c = true := by rfl) (hc : Nat.blt c Z.nx = true := by rfl) (hx : x = Z.cln c := by rfl) (hg : Gl X x := by rfl) (hdb : (x == ("__debug__" : Str)) = false := by decide +kernel) : ME X Z G W (.Call (.Name x p) [] [] pos) (.newo c) := by
  subst hx; exact se_newo (M.T.no0 c hn).1 (M.T.no0 c hn).2.1 (M.T.no0 c hn).2.2 hg (M.T.cl c (ltb hc)).1 (M.T.cl c (ltb hc)).2 hdb
theorem me_mth (M : Mx X Z G k W t) {m : Nat} {x : Str} {pl : Sem Bool} (ho : ME X Z G W a₀ ia) (ha : MA X Z G W (e₀ :: es₀) is) (hx : x = Z.mn m := by rfl)
    (hst : starEach (e₀ :: es₀) X.env = (false, eval e₀ X.env) :: starEach es₀ X.env := by rfl) (hpl : (backTo pos (starEach es₀ X.env)).any (·.1) = false := by rfl)
    (ht : eval (.Call (.Attribute a₀ x apos) (e₀ :: es₀) [] pos) X.env = (do
      let ov ← eval a₀ X.env
      standAt apos.atName
      let (f, first) ← holding [ov] (getMethod ov x pl)
      callWith pos f first (backTo pos (starEach (e₀ :: es₀) X.env)) (backToKw pos (keywordEach [] X.env))) := by rfl) : ME X Z G W (.Call (.Attribute a₀ x apos) (e₀ :: es₀) [] pos) (.mth m ia is) := se_mth M.F M.tk hx ho ha hst hpl ht
theorem me_mth0 (M : Mx X Z G k W t) {m : Nat} {x : Str} {pl : Sem Bool} (ho : ME X Z G W a₀ ia) (hx : x = Z.mn m := by rfl)
    (ht : eval (.Call (.Attribute a₀ x apos) [] [] pos) X.env = (do
      let ov ← eval a₀ X.env
      standAt apos.atName
      let (f, first) ← holding [ov] (getMethod ov x pl)
      callWith pos f first (backTo pos (starEach [] X.env)) (backToKw pos (keywordEach [] X.env))) := by rfl) : ME X Z G W (.Call (.Attribute a₀ x apos) [] [] pos) (.mth m ia .nil) := se_mth0 M.F M.tk hx ho ht
theorem me_append (M : Mx X Z G k W t) (ho : ME X Z G W a₀ ia) (ha : ME X Z G W e₀ ie) (hbase : attributeBase a₀ "append" X.env (eval a₀ X.env) = eval a₀ X.env := by rfl)
    (hfew : ((backTo pos (starEach [e₀] X.env)).all (fun x => !x.1) && (backToKw pos (keywordEach [] X.env)).all (fun x => x.1.isSome) && decide ([e₀].length + ([] : List Keyword).length + (if ([] : List Keyword).isEmpty then 0 else 1) < 30)) = true := by rfl)
    (hline : (apos.endLine == pos.line) = true := by rfl) (hs : starEach [e₀] X.env = (false, eval e₀ X.env) :: starEach [] X.env := by rfl) : ME X Z G W (.Call (.Attribute a₀ "append" apos) [e₀] [] pos) (.bm .append ia (.cons ie .nil)) :=
  se_bm (m := .append) M.F M.calm PySem.F.plainAttrs_list PySem.F.slot_list_append PySem.F.type_list_append ho (ma_cons M ha (ma_nil M) hs) hbase hfew hline hs rfl
theorem me_extend (M : Mx X Z G k W t) (ho : ME X Z G W a₀ ia) (ha : ME X Z G W e₀ ie) (hbase : attributeBase a₀ "extend" X.env (eval a₀ X.env) = eval a₀ X.env := by rfl)
    (hfew : ((backTo pos (starEach [e₀] X.env)).all (fun x => !x.1) && (backToKw pos (keywordEach [] X.env)).all (fun x => x.1.isSome) && decide ([e₀].length + ([] : List Keyword).length + (if ([] : List Keyword).isEmpty then 0 else 1) < 30)) = true := by rfl)
    (hline : (apos.endLine == pos.line) = true := by rfl) (hs : starEach [e₀] X.env = (false, eval e₀ X.env) :: starEach [] X.env := by rfl) : ME X Z G W (.Call (.Attribute a₀ "extend" apos) [e₀] [] pos) (.bm .extend ia (.cons ie .nil)) :=
  se_bm (m := .extend) M.F M.calm PySem.F.plainAttrs_list PySem.F.slot_list_extend PySem.F.type_list_extend ho (ma_cons M ha (ma_nil M) hs) hbase hfew hline hs rfl
theorem me_pop (M : Mx X Z G k W t) (ho : ME X Z G W a₀ ia) (hbase : attributeBase a₀ "pop" X.env (eval a₀ X.env) = eval a₀ X.env := by rfl) (hline : (apos.endLine == pos.line) = true := by rfl) : ME X Z G W (.Call (.Attribute a₀ "pop" apos) [] [] pos) (.bm .pop ia .nil) :=
  se_bm0 (m := .pop) M.F M.calm PySem.F.plainAttrs_list PySem.F.slot_list_pop PySem.F.type_list_pop ho hbase hline
theorem me_pop1 (M : Mx X Z G k W t) (ho : ME X Z G W a₀ ia) (ha : ME X Z G W e₀ ie) (hbase : attributeBase a₀ "pop" X.env (eval a₀ X.env) = eval a₀ X.env := by rfl)
    (hfew : ((backTo pos (starEach [e₀] X.env)).all (fun x => !x.1) && (backToKw pos (keywordEach [] X.env)).all (fun x => x.1.isSome) && decide ([e₀].length + ([] : List Keyword).length + (if ([] : List Keyword).isEmpty then 0 else 1) < 30)) = true := by rfl)
    (hline : (apos.endLine == pos.line) = true := by rfl) (hs : starEach [e₀] X.env = (false, eval e₀ X.env) :: starEach [] X.env := by rfl) : ME X Z G W (.Call (.Attribute a₀ "pop" apos) [e₀] [] pos) (.bm .pop ia (.cons ie .nil)) :=
  se_bm (m := .pop) M.F M.calm PySem.F.plainAttrs_list PySem.F.slot_list_pop PySem.F.type_list_pop ho (ma_cons M ha (ma_nil M) hs) hbase hfew hline hs rfl
theorem me_index (M : Mx X Z G k W t) (ho : ME X Z G W a₀ ia) (ha : ME X Z G W e₀ ie) (hbase : attributeBase a₀ "index" X.env (eval a₀ X.env) = eval a₀ X.env := by rfl)
    (hfew : ((backTo pos (starEach [e₀] X.env)).all (fun x => !x.1) && (backToKw pos (keywordEach [] X.env)).all (fun x => x.1.isSome) && decide ([e₀].length + ([] : List Keyword).length + (if ([] : List Keyword).isEmpty then 0 else 1) < 30)) = true := by rfl)
    (hline : (apos.endLine == pos.line) = true := by rfl) (hs : starEach [e₀] X.env = (false, eval e₀ X.env) :: starEach [] X.env := by rfl) : ME X Z G W (.Call (.Attribute a₀ "index" apos) [e₀] [] pos) (.bm .index ia (.cons ie .nil)) :=
  se_bm (m := .index) M.F M.calm PySem.F.plainAttrs_list PySem.F.slot_list_index PySem.F.type_list_index ho (ma_cons M ha (ma_nil M) hs) hbase hfew hline hs rfl
theorem me_count (M : Mx X Z G k W t) (ho : ME X Z G W a₀ ia) (ha : ME X Z G W e₀ ie) (hbase : attributeBase a₀ "count" X.env (eval a₀ X.env) = eval a₀ X.env := by rfl)
    (hfew : ((backTo pos (starEach [e₀] X.env)).all (fun x => !x.1) && (backToKw pos (keywordEach [] X.env)).all (fun x => x.1.isSome) && decide ([e₀].length + ([] : List Keyword).length + (if ([] : List Keyword).isEmpty then 0 else 1) < 30)) = true := by rfl)
    (hline : (apos.endLine == pos.line) = true := by rfl) (hs : starEach [e₀] X.env = (false, eval e₀ X.env) :: starEach [] X.env := by rfl) : ME X Z G W (.Call (.Attribute a₀ "count" apos) [e₀] [] pos) (.bm .count ia (.cons ie .nil)) :=
  se_bm (m := .count) M.F M.calm PySem.F.plainAttrs_str PySem.F.slot_str_count PySem.F.type_str_count ho (ma_cons M ha (ma_nil M) hs) hbase hfew hline hs rfl
theorem me_split (M : Mx X Z G k W t) (ho : ME X Z G W a₀ ia) (ha : ME X Z G W e₀ ie) (hbase : attributeBase a₀ "split" X.env (eval a₀ X.env) = eval a₀ X.env := by rfl)
    (hfew : ((backTo pos (starEach [e₀] X.env)).all (fun x => !x.1) && (backToKw pos (keywordEach [] X.env)).all (fun x => x.1.isSome) && decide ([e₀].length + ([] : List Keyword).length + (if ([] : List Keyword).isEmpty then 0 else 1) < 30)) = true := by rfl)
    (hline : (apos.endLine == pos.line) = true := by rfl) (hs : starEach [e₀] X.env = (false, eval e₀ X.env) :: starEach [] X.env := by rfl) : ME X Z G W (.Call (.Attribute a₀ "split" apos) [e₀] [] pos) (.bm .split ia (.cons ie .nil)) :=
  se_bm (m := .split) M.F M.calm PySem.F.plainAttrs_str PySem.F.slot_str_split PySem.F.type_str_split ho (ma_cons M ha (ma_nil M) hs) hbase hfew hline hs rfl
theorem me_join (M : Mx X Z G k W t) (ho : ME X Z G W a₀ ia) (ha : ME X Z G W e₀ ie) (hbase : attributeBase a₀ "join" X.env (eval a₀ X.env) = eval a₀ X.env := by rfl)
    (hfew : ((backTo pos (starEach [e₀] X.env)).all (fun x => !x.1) && (backToKw pos (keywordEach [] X.env)).all (fun x => x.1.isSome) && decide ([e₀].length + ([] : List Keyword).length + (if ([] : List Keyword).isEmpty then 0 else 1) < 30)) = true := by rfl)
    (hline : (apos.endLine == pos.line) = true := by rfl) (hs : starEach [e₀] X.env = (false, eval e₀ X.env) :: starEach [] X.env := by rfl) : ME X Z G W (.Call (.Attribute a₀ "join" apos) [e₀] [] pos) (.bm .join ia (.cons ie .nil)) :=
  se_bm (m := .join) M.F M.calm PySem.F.plainAttrs_str PySem.F.slot_str_join PySem.F.type_str_join ho (ma_cons M ha (ma_nil M) hs) hbase hfew hline hs rfl
theorem me_startswith (M : Mx X Z G k W t) (ho : ME X Z G W a₀ ia) (ha : ME X Z G W e₀ ie) (hbase : attributeBase a₀ "startswith" X.env (eval a₀ X.env) = eval a₀ X.env := by rfl)
    (hfew : ((backTo pos (starEach [e₀] X.env)).all (fun x => !x.1) && (backToKw pos (keywordEach [] X.env)).all (fun x => x.1.isSome) && decide ([e₀].length + ([] : List Keyword).length + (if ([] : List Keyword).isEmpty then 0 else 1) < 30)) = true := by rfl)
    (hline : (apos.endLine == pos.line) = true := by rfl) (hs : starEach [e₀] X.env = (false, eval e₀ X.env) :: starEach [] X.env := by rfl) : ME X Z G W (.Call (.Attribute a₀ "startswith" apos) [e₀] [] pos) (.bm .startswith ia (.cons ie .nil)) :=
  se_bm (m := .startswith) M.F M.calm PySem.F.plainAttrs_str PySem.F.slot_str_startswith PySem.F.type_str_startswith ho (ma_cons M ha (ma_nil M) hs) hbase hfew hline hs rfl
/-! ### dicts -/
def MPs (X : Cx) (Z : Nm) (G : Gam) (W : WX) (pos : Pos) (ks : List (Option Expr)) (vs : List Expr) (i : Exs) : Prop := SPs X Z W pos ks vs (wpPs G i)
theorem mp_nil (M : Mx X Z G k W t) : MPs X Z G W pos [] [] .nil := sp_nil
theorem mp_cons (M : Mx X Z G k W t) {ks : List (Option Expr)} {vs : List Expr} (hk : ME X Z G W a₀ ia) (hv : ME X Z G W b₀ ib) (hr : MPs X Z G W pos ks vs is) : MPs X Z G W pos (some a₀ :: ks) (b₀ :: vs) (.cons ia (.cons ib is)) := sp_cons hk hv hr
theorem me_dct (M : Mx X Z G k W t) {ks : List (Option Expr)} {vs : List Expr} (h : MPs X Z G W pos ks vs is) (hall : ks.all (·.isSome) = true := by rfl) (hl : ks.length = vs.length := by rfl) (h0 : ks ≠ [] := by intro h; cases h) (h15 : Nat.ble ks.length 15 = true := by rfl) : ME X Z G W (.Dict ks vs pos) (.dct is) :=
  se_dct h hall hl h0 (Nat.le_of_ble_eq_true h15)
theorem me_dct0 (M : Mx X Z G k W t) : ME X Z G W (.Dict [] [] pos) (.dct .nil) := se_dct0
/-! ### isinstance of two classes -/
theorem me_isi2 (M : Mx X Z G k W t) {xI xT xU : Str} {ty uy : Ty} {pT pU pp : Pos} {kk : Nat} (ha : ME X Z G W a₀ ia) (hI : xI = "isinstance" := by decide +kernel) (hg : Gl X xI := by rfl) (hm : Z.nob.contains xI = true := by rfl) (hgT : Gl X xT := by rfl) (hmT : Z.nob.contains xT = true := by rfl) (hvT : bootBuiltins xT = some (.type (tyName ty)) := by decide +kernel)
    (hn : xT ≠ "__name__" := by decide +kernel) (hdb : (xT == ("__debug__" : Str)) = false := by decide +kernel) (hgU : Gl X xU := by rfl) (hmU : Z.nob.contains xU = true := by rfl) (hvU : bootBuiltins xU = some (.type (tyName uy)) := by decide +kernel) (hnU : xU ≠ "__name__" := by decide +kernel) (hdbU : (xU == ("__debug__" : Str)) = false := by decide +kernel)
    (he : starEach [a₀, .Tuple [.Name xT pT, .Name xU pU] kk pp] X.env = (false, eval a₀ X.env) :: starEach [.Tuple [.Name xT pT, .Name xU pU] kk pp] X.env := by rfl) (he2 : starEach [.Name xT pT, .Name xU pU] X.env = (false, eval (.Name xT pT) X.env) :: starEach [.Name xU pU] X.env := by rfl) : ME X Z G W (.Call (.Name xI p) [a₀, .Tuple [.Name xT pT, .Name xU pU] kk pp] [] pos) (.isi2 ia ty uy) := by
  subst hI
  have hT : PE X (.Name xT pT) (tC (.ty (tyName ty))) := pe_bltn hgT (M.T.no _ (inb hmT)) hvT rfl hn hdb
  have hU : PE X (.Name xU pU) (tC (.ty (tyName uy))) := pe_bltn hgU (M.T.no _ (inb hmU)) hvU rfl hnU hdbU
  refine PE.imp (pe_callB call_isiT hg (M.T.no _ (inb hm)) (by decide +kernel) (pa_cons ha (pa_cons (pe_tup (pa_cons hT (pa_cons hU pa_nil) he2)) pa_nil) he) (by decide +kernel) (by decide +kernel) he) fun τ H Q ⟨σ, S, Qa, E, er, sr, w, q, qe⟩ => ?_
  refine ⟨σ, S, _, E, er, sr, w, fun d v S1 H1 k1 sr1 rd1 w1 => ?_, qe⟩
  dsimp only at w1
  split at w1
  · rename_i r q' e1 e2
    refine ⟨by show 2 ≤ sizeLine; rw [sizeLine_eq]; omega, fun tp hp => ?_⟩
    have tk : TK H1 (upd H1 tp (.tup [.ty (tyName ty), .ty (tyName uy)])) := TK.new hp
    have sr2 := sr1.new (o := .tup [.ty (tyName ty), .ty (tyName uy)]) hp
    obtain ⟨y1, t1, t2, t4⟩ := isi_ty2 (K := X.K) M.F.zk sr2 (rd1.keep tk) e1 e2
    refine ⟨v, tp, _, y1, [.type (tyName ty), .type (tyName uy)], r || q', rfl, upd_same, .cons (.ty _) (.cons (.ty _) .nil), t1, ?_, q (.bl (r || q')) _ S1 _ (k1.trans tk) sr2 .bl w1⟩
    refine kitAny_cons t2 (fun e => ?_) fun e => by rw [e]; rfl
    refine kitAny_cons t4 (fun e3 => ?_) fun e3 => by rw [e3, e]; rfl
    rw [e, e3]
    exact kitAny_nil
  · exact w1.elim
/-! ### backwards -/
theorem range_pick {α : Type} : ∀ l : List α, (List.range l.length).filterMap (fun k => l[k]?) = l
  | [] => rfl
  | a :: l => by
    rw [List.length_cons, List.range_succ_eq_map, List.filterMap_cons]
    show a :: List.filterMap _ _ = _
    rw [List.filterMap_map]
    exact congrArg (a :: ·) (range_pick l)
theorem fm_congr {α β : Type} {f g : α → Option β} : ∀ l : List α, (∀ x ∈ l, f x = g x) → l.filterMap f = l.filterMap g
  | [], _ => rfl
  | a :: l, h => by
    rw [List.filterMap_cons, List.filterMap_cons, h a List.mem_cons_self, fm_congr l fun x hx => h x (List.mem_cons_of_mem _ hx)]
theorem rev_pick (items : Array Value) : (List.range items.size).filterMap (fun (k : Nat) => items[(((items.size : Int) - 1) + (k : Int) * (-1)).toNat]?) = items.toList.reverse := by
  have e := range_pick items.toList.reverse
  rw [List.length_reverse, Array.length_toList] at e
  rw [← e]
  refine fm_congr _ fun k hk => ?_
  have hk := List.mem_range.mp hk
  rw [List.getElem?_reverse (by simpa using hk), Array.getElem?_toList, Array.length_toList]
  congr 1
  omega
theorem rev_adj (n : Nat) : Builtin.Slice.sliceAdjust none none (-1) (n : Int) = ((n : Int) - 1, -1) := rfl
theorem rev_plc (n : Nat) : Builtin.Slice.slicePlaces ((n : Int) - 1) (-1) (-1) = n := by
  unfold Builtin.Slice.slicePlaces
  rw [if_neg (by decide)]
  by_cases h : (n : Int) - 1 > -1
  · rw [if_pos h]
    have : ((n : Int) - 1 - -1 - 1) / - -1 = (n : Int) - 1 := by
      rw [show (- -1 : Int) = 1 by decide, Int.ediv_one]; omega
    rw [this]
    omega
  · rw [if_neg h]; omega
theorem getItem_tuple_rev {prog : Program} {w : World} {A : Around} {E : Value → Shared → Prop} {s : Shared} {t sl : Addr} {items : Array Value} {vl vu vs : Value} {Q : Value → Shared → Prop} (ht : IsTup s.heap t items) (hs : s.heap.IsSliceOf sl vl vu vs) (pl : IsPart vl none) (pu : IsPart vu none) (ps : IsPart vs (some (-1)))
    (h : Q (.ref s.heap.objs.size) { s with heap := s.heap.push { cls := .type "tuple", data := .seq items.toList.reverse.toArray } }) (hsz : items.size ≤ sizeLine) : wpAny (model prog w) A (getItem (.ref t) (.ref sl)) Q E s := by
  have htake : sizeOk (.seq items.toList.reverse.toArray) := by
    show items.toList.reverse.toArray.size ≤ sizeLine
    rw [List.size_toArray, List.length_reverse, Array.length_toList]
    exact hsz
  obtain ⟨os, hos, hcs, hds⟩ := id hs
  have hTs : s.TypeIs (.ref sl) "slice" := ⟨os, hos, hcs⟩
  unfold getItem
  try with_reducible refine wpAny_holding ?_
  first | refine wpAny_bind (wpAny_pure ?_) | skip
  refine wpAny_bind (wpAny_sequenceKey ht.typeIs (by decide) (wpAny_bind (wpAny_callSpecial?_slot (name := Str.ofString "__getitem__") ht.typeIs PyProof.Rows.slot_tuple_getitem
    (wpAny_call_entry PyProof.Rows.slot_tuple_getitem ht.typeIs entry_tuple_getitem ?_ (args_tuple_getitem _ _)))))
  show wpAny _ _ (Builtin.Tuple.tupleItemsOf (.ref t) >>= _) _ _ s
  refine wpAny_bind (tupleItemsOf_ ht (wpAny_bind (wpAny_typeOf hTs ?_)))
  rw [if_pos (by decide)]
  have ap : ∀ (A : Around) (E : Value → Shared → Prop), wpAny (model prog w) A (Builtin.Slice.sliceApplied (.ref sl) (pure (items.size : Int))) (fun r s' => r = (((items.size : Int) - 1), (-1 : Int), items.size) ∧ s' = s) E s := by
    intro A E
    unfold Builtin.Slice.sliceApplied Builtin.Slice.sliceFields
    refine wpAny_bind (wpAny_bind (wpAny_field hos hds (x := vl) rfl (wpAny_bind (wpAny_field hos hds (x := vu) rfl (wpAny_bind (wpAny_field hos hds (x := vs) rfl (wpAny_pure ?_)))))))
    refine wpAny_bind (HT.slicePart_ ps ?_)
    show wpAny _ _ (if ((-1 : Int) == 0) = true then _ else _) _ _ s
    rw [if_neg (by decide)]
    refine wpAny_bind (HT.slicePart_ pl (wpAny_bind (HT.slicePart_ pu (wpAny_bind (wpAny_pure ?_)))))
    show wpAny _ _ (match Builtin.Slice.sliceAdjust none none (-1) (items.size : Int) with | (lo, hi) => pure (lo, (-1 : Int), Builtin.Slice.slicePlaces lo hi (-1))) _ _ s
    rw [rev_adj]
    show wpAny _ _ (pure (((items.size : Int) - 1), (-1 : Int), Builtin.Slice.slicePlaces ((items.size : Int) - 1) (-1) (-1))) _ _ s
    rw [rev_plc]
    exact wpAny_pure ⟨rfl, rfl⟩
  refine wpAny_bind (thn (ap _ _) fun r s' hr => ?_)
  obtain ⟨rfl, rfl⟩ := hr
  have hno : ¬ ((((items.size : Int) - 1) == 0 && (-1 : Int) == 1 && items.size == items.size) = true) := by simp
  show wpAny _ _ (if ((((items.size : Int) - 1) == 0 && (-1 : Int) == 1 && items.size == items.size) = true) then _ else _) _ _ _
  rw [if_neg hno, rev_pick]
  first
    | exact wpAny_bind (m := Builtin.Tuple.tupleExact _) (wpAny_newObj_type (wpAny_pure ⟨_, rfl, wpAny_pure h⟩) htake)
    | exact wpAny_bind (m := Builtin.Tuple.tupleExact _) (wpAny_newObj_type (wpAny_bind (wpAny_pure (wpAny_pure ⟨_, rfl, wpAny_pure h⟩))) htake)
    | exact wpAny_bind (wpAny_bind (m := Builtin.Tuple.tupleExact _) (wpAny_newObj_type (wpAny_pure (wpAny_pure ⟨_, rfl, wpAny_pure h⟩)) htake))
    | exact wpAny_bind (wpAny_bind (m := Builtin.Tuple.tupleExact _) (wpAny_newObj_type (wpAny_pure ⟨_, rfl, wpAny_pure h⟩) htake))
/-- t[::-1], xs[::-1] -/
def tRevA (K : PySem.W.Frag) (te : TE) : TE := fun σ H Q => te σ H fun x H1 => ∃ a xs, x = .ref a ∧ ((SqL K H1 a xs ∧ ∀ p, H1 p = none → Q (.ref p) (upd H1 p (.lst xs.reverse))) ∨ (SqT K H1 a xs ∧ ∀ p, H1 p = none → Q (.ref p) (upd H1 p (.tup xs.reverse))))
theorem pe_revA {e : Expr} {te : TE} {kk : Nat} {p1 p2 p3 pos : Pos} (he : PE X e te) : PE X (.Subscript e (.Slice none none (some (.UnaryOp .USub (.Constant (.int 1) kk p1) p2)) p3) pos) (tRevA X.K te) := by
  refine ⟨fun pins s σ H Q I h => Subscript_ (thn (he.run pins s σ H _ I h) fun v s1 ⟨x, H1, I1, r1, q1⟩ => ?_)⟩
  obtain ⟨a, xs, ex, hx⟩ := q1
  subst ex
  cases r1
  have hst : PO X (some (.UnaryOp .USub (.Constant (.int 1) kk p1) p2)) (tPart (tUn (rU fun i => .int (-i)) (tC (.int 1)))) := po_some (pe_un un_neg pe_int)
  refine wpAny_Slice (thn (po_none.run pins s1 σ H1 (fun o H2 => o = none ∧ H2 = H1) I1 ⟨rfl, rfl⟩) fun vl s2 ⟨l, H2, I2, pl, el, e2⟩ => thn (po_none.run pins s2 σ H2 (fun o H3 => o = none ∧ H3 = H2) I2 ⟨rfl, rfl⟩) fun vu s3 ⟨u, H3, I3, pu, eu, e3⟩ => ?_)
  subst el e2 eu e3
  refine thn (hst.run pins s3 σ _ (fun o H4 => o = some (-1) ∧ H4 = _) I3 ⟨1, rfl, -1, rfl, rfl, rfl⟩) fun vs s4 ⟨o, H4, I4, ps, eo, e4⟩ => ?_
  subst eo e4
  have I5 := I4.kept (h' := s4.heap.push { cls := .type "slice", data := .fields #[vl, vu, vs] }) (t' := s4.toks) fun b ob q => Heap.get?_push_of_some _ q
  show wpAny (model X.prog X.w) X.A (subscriptTail e (.Slice none none (some (.UnaryOp .USub (.Constant (.int 1) kk p1) p2)) p3) (.ref a) (.ref s4.heap.objs.size)) (EP X pins σ Q) X.xe { s4 with heap := s4.heap.push { cls := .type "slice", data := .fields #[vl, vu, vs] } }
  rcases hx with ⟨hx, q⟩ | ⟨hx, q⟩
  · obtain ⟨its, r, ht, hz⟩ := I5.list hx
    have hlen := r.length
    refine tail_any (ops := [.ref a, .ref s4.heap.objs.size]) ht.isList.typeIs (PySem.slot_list_getitem.lookup) ?_ (by with_unfolding_all rfl)
    refine wpAny_getItem_list_slice ht.isList (Heap.IsSliceOf.new _ vl vu vs) pl pu ps (by decide) ?_ (by rw [List.size_toArray]; omega)
    rw [PySem.W.krv_pick]
    refine ⟨.ref _, _, I5.laid (t' := s4.toks) (o := .lst xs.reverse) (fun b ob q => Heap.get?_push_of_some _ q) (Nat.le_refl _) ?_, rfl, q _ (I5.hok.fresh (Nat.le_refl _))⟩
    exact ⟨by rw [List.length_reverse]; exact hz, _, 0, r.reverse, Heap.get?_push_size _ rfl⟩
  · obtain ⟨its, r, ht, hz⟩ := I5.tuple hx
    have hlen := r.length
    refine tail_any (ops := [.ref a, .ref s4.heap.objs.size]) ht.typeIs (PyProof.Rows.slot_tuple_getitem.lookup) ?_ (by with_unfolding_all rfl)
    refine getItem_tuple_rev ht (Heap.IsSliceOf.new _ vl vu vs) pl pu ps ?_ (by rw [List.size_toArray]; omega)
    refine ⟨.ref _, _, I5.laid (t' := s4.toks) (o := .tup xs.reverse) (fun b ob q => Heap.get?_push_of_some _ q) (Nat.le_refl _) ?_, rfl, q _ (I5.hok.fresh (Nat.le_refl _))⟩
    exact ⟨by rw [List.length_reverse]; exact hz, _, r.reverse, IsTup.new _ _⟩
theorem me_rev (M : Mx X Z G k W t) {kk : Nat} {p1 p2 p3 : Pos} (ha : ME X Z G W a₀ ia) : ME X Z G W (.Subscript a₀ (.Slice none none (some (.UnaryOp .USub (.Constant (.int 1) kk p1) p2)) p3) pos) (.rev ia) :=
  PE.imp (pe_revA ha) fun τ H Q ⟨σ, S, Qa, E, er, sr, w, q, qe⟩ => by
    refine ⟨σ, S, _, E, er, sr, w, fun d v S1 H1 k1 sr1 rd1 w1 => ?_, qe⟩
    unfold revW at w1
    dsimp only at w1
    split at w1
    · cases rd1 with
      | tup t rs => exact ⟨_, _, rfl, .inr ⟨by rw [← M.F.zk]; exact t.sq, (q.keep k1).newT sr1 rs.reverse w1⟩⟩
    · cases rd1
      obtain ⟨ds, e, w1⟩ := w1
      obtain ⟨vs, sq, rs⟩ := rdAt (K := X.K) sr1 e
      exact ⟨_, _, rfl, .inl ⟨sq, (q.keep k1).newL sr1 rs.reverse w1⟩⟩
    · exact w1.elim
/-! ### what loops go over -/
theorem mi_sq (M : Mx X Z G k W t) (ha : ME X Z G W a₀ ia) : MI X Z G W tg a₀ (.sq ia) := si_sq M.F.zk ha
theorem mi_rng (M : Mx X Z G k W t) {x : Str} (hb : ME X Z G W b₀ ib) (hx : x = "range" := by decide +kernel) (hg : Gl X x := by rfl) (hm : Z.nob.contains x = true := by rfl) (hs : starEach [b₀] X.env = [(false, eval b₀ X.env)] := by rfl) : MI X Z G W tg (.Call (.Name x p) [b₀] [] pos) (.rng ib) := by
  subst hx; exact si_rng hg (M.T.no _ (inb hm)) hb hs
theorem mi_rng2 (M : Mx X Z G k W t) {x : Str} (ha : ME X Z G W a₀ ia) (hb : ME X Z G W b₀ ib) (hx : x = "range" := by decide +kernel) (hg : Gl X x := by rfl) (hm : Z.nob.contains x = true := by rfl) (hs : starEach [a₀, b₀] X.env = [(false, eval a₀ X.env), (false, eval b₀ X.env)] := by rfl) (hs2 : starEach [b₀] X.env = [(false, eval b₀ X.env)] := by rfl) :
    MI X Z G W tg (.Call (.Name x p) [a₀, b₀] [] pos) (.rng2 ia ib) := by
  subst hx; exact si_rng2 hg (M.T.no _ (inb hm)) ha hb hs hs2
theorem mi_enum (M : Mx X Z G k W t) {x : Str} {elts : List Expr} {kk : Nat} {tp : Pos} (ha : ME X Z G W a₀ ia) (hx : x = "enumerate" := by decide +kernel) (hg : Gl X x := by rfl) (hm : Z.nob.contains x = true := by rfl) (hs : starEach [a₀] X.env = [(false, eval a₀ X.env)] := by rfl) (hs2 : starEach [a₀] X.env = (false, eval a₀ X.env) :: starEach [] X.env := by rfl) :
    MI X Z G W (.Tuple elts kk tp) (.Call (.Name x p) [a₀] [] pos) (.enum ia) := by
  subst hx; exact si_enum M.F.zk hg (M.T.no _ (inb hm)) ha hs hs2
theorem mi_zip (M : Mx X Z G k W t) {x : Str} {elts : List Expr} {kk : Nat} {tp : Pos} (ha : ME X Z G W a₀ ia) (hb : ME X Z G W b₀ ib) (hx : x = "zip" := by decide +kernel) (hg : Gl X x := by rfl) (hm : Z.nob.contains x = true := by rfl) (hs : starEach [a₀, b₀] X.env = (false, eval a₀ X.env) :: starEach [b₀] X.env := by rfl) (hs2 : starEach [b₀] X.env = (false, eval b₀ X.env) :: starEach [] X.env := by rfl)
    (hpl : (backTo pos (starEach [b₀] X.env)).any (·.1) = false := by rfl) : MI X Z G W (.Tuple elts kk tp) (.Call (.Name x p) [a₀, b₀] [] pos) (.zip ia ib) := by
  subst hx; exact si_zip M.F.zk hg (M.T.no _ (inb hm)) ha hb hs hs2 hpl
theorem me_lzip (M : Mx X Z G k W t) {x y : Str} {p2 pos2 : Pos} (ha : ME X Z G W a₀ ia) (hb : ME X Z G W b₀ ib) (hx : x = "list" := by decide +kernel) (hy : y = "zip" := by decide +kernel) (hg : Gl X x := by rfl) (hm : Z.nob.contains x = true := by rfl) (hg2 : Gl X y := by rfl) (hm2 : Z.nob.contains y = true := by rfl)
    (hs : starEach [a₀, b₀] X.env = (false, eval a₀ X.env) :: starEach [b₀] X.env := by rfl) (hs2 : starEach [b₀] X.env = (false, eval b₀ X.env) :: starEach [] X.env := by rfl) (hpl : (backTo pos2 (starEach [b₀] X.env)).any (·.1) = false := by rfl) :
    ME X Z G W (.Call (.Name x p) [.Call (.Name y p2) [a₀, b₀] [] pos2] [] pos) (.lzip ia ib) := by
  subst hx; subst hy
  refine PE.imp (ZM.pe_lzip (Z := Z) M.F.zk M.calm hg (M.T.no _ (inb hm)) hg2 (M.T.no _ (inb hm2)) (pa_cons ha (pa_cons hb pa_nil hs2) hs) hs hpl) fun τ H Q ⟨σ, S, Qa, E, er, sr, w, q, qe⟩ => ?_
  refine two_ok (R := fun x y H2 => ∃ (a b : Addr) (ds es : List D) (S : Sto), ([x, y] : List V) = [.ref a, .ref b] ∧ SR Z S H2 ∧ rd S a = some ds ∧ (∃ us, TupAt X.K H2 b us ∧ RDs Z H2 es us) ∧ (zipD ds es).length < sizeLine ∧ ∀ q H', S q = none → TK H2 H' → SR Z (S.upd q (.lst (zipD ds es))) H' → Q (.ref q) H') er sr w qe fun {S2 H2 x y v u} k sr' rx ry h => ?_
  unfold lzW at h
  split at h
  · rename_i a es
    obtain ⟨ds, e1, e2, h⟩ := h
    cases rx
    cases ry with
    | tup ht ru =>
      exact ⟨a, _, ds, es, S2, rfl, sr', e1, ⟨_, M.F.zk ▸ ht, ru⟩, e2, fun q' H' hq tk sr2 => q _ _ _ H' (k.trans tk) sr2 .ref (h q' hq)⟩
  · exact h.elim
/-! ### comprehensions -/
theorem mc_none : MC X Z G [] .none := sc_none
theorem mc_some (ha : MT X Z G W0 a₀ ia) : MC X Z G [a₀] (.some ia) := sc_some ha
theorem mg_name (M : Mx X Z G k W t) (i : Nat) {x : Str} (hi : X.N[i]? = some x := by rfl) (hx : Loc X.env.scope x := by first | exact Or.inl rfl | exact Or.inr rfl) (hf : X.fn x = true ∨ X.env.scope.names.lookup x = some .local := by first | exact Or.inl rfl | exact Or.inr rfl) : PG X (.Name x p) (gTg X.K (.nm i)) := tg_name M.nd hi hx hf
theorem mg_nil (M : Mx X Z G k W t) : PGs X [] (gIs []) := tg_nil
theorem mg_cons (M : Mx X Z G k W t) {i : Nat} {is : List Nat} {x : Str} {es : List Expr} (h : PGs X es (gIs is)) (hi : X.N[i]? = some x := by rfl) (hx : Loc X.env.scope x := by first | exact Or.inl rfl | exact Or.inr rfl) (hf : X.fn x = true ∨ X.env.scope.names.lookup x = some .local := by first | exact Or.inl rfl | exact Or.inr rfl)
    (hs : (assignEach (.Name x p :: es) X.env).map (·.2) = assign (.Name x p) X.env :: (assignEach es X.env).map (·.2) := by rfl) : PGs X (.Name x p :: es) (gIs (i :: is)) := tg_cons M.nd hi hx hf h hs
theorem mg_tup (M : Mx X Z G k W t) {is : List Nat} {es : List Expr} {kk : Nat} (h : PGs X es (gIs is)) (hn : (assignEach es X.env).length = is.length := by rfl) (hst : (assignEach es X.env).findIdx? (·.1) = none := by rfl) : PG X (.Tuple es kk pos) (gTg X.K (.tp is)) := pgs_names h M.calm hn hst
theorem Mx.blk (M : Mx X Z G k W t) (s : Shared) (H : Hp) (C : Addr) (cl : List (Str × Addr)) (fp : List Addr) {scope : Scope} : Mx (X.blk s H scope (compEnvC scope cl C X.env) fp) Z G k W0 false := ⟨M.F, M.T, takes0, M.calm, M.nd, PassesOwn.never, fun _ _ _ _ _ _ h => h⟩
theorem me_lc (M : Mx X Z G k W t) {elt iter : Expr} {ifs : List Expr} {scope : Scope} (own : List (Str × Nat)) {ii : Itr} {it : Exo} {tt : Tg} (hi : MI X Z G W tg iter ii)
    (hg : ∀ (s : Shared) (H : Hp) (C : Addr) (cl : List (Str × Addr)) (fp : List Addr), Mx (X.blk s H scope (compEnvC scope cl C X.env) fp) Z G k W0 false → PG (X.blk s H scope (compEnvC scope cl C X.env) fp) tg (gTg X.K tt))
    (ht : ∀ (s : Shared) (H : Hp) (C : Addr) (cl : List (Str × Addr)) (fp : List Addr), Mx (X.blk s H scope (compEnvC scope cl C X.env) fp) Z G k W0 false → MC (X.blk s H scope (compEnvC scope cl C X.env) fp) Z G ifs it)
    (he : ∀ (s : Shared) (H : Hp) (C : Addr) (cl : List (Str × Addr)) (fp : List Addr), Mx (X.blk s H scope (compEnvC scope cl C X.env) fp) Z G k W0 false → ME (X.blk s H scope (compEnvC scope cl C X.env) fp) Z G W0 elt ie)
    (ok : blkC X.N X.env.scope scope own = true := by rfl) (ho : own.map (·.2) = tt.slots := by rfl) (hs : ∀ x, foldedSetIterable iter X.env x = pure x := by intro _; rfl) : ME X Z G W (.ListComp elt [⟨tg, iter, ifs, 0⟩] scope pos) (.lc ie tt ii it) :=
  se_lc M.F.zk M.calm M.nd hi (blkOk_by ok) ho (fun s H C cl fp => hg s H C cl fp (M.blk s H C cl fp)) (fun s H C cl fp => ht s H C cl fp (M.blk s H C cl fp)) (fun s H C cl fp => he s H C cl fp (M.blk s H C cl fp)) hs
theorem me_dc (M : Mx X Z G k W t) {kx vx iter : Expr} {ifs : List Expr} {scope : Scope} (own : List (Str × Nat)) {ii : Itr} {it : Exo} {tt : Tg} (hi : MI X Z G W tg iter ii)
    (hg : ∀ (s : Shared) (H : Hp) (C : Addr) (cl : List (Str × Addr)) (fp : List Addr), Mx (X.blk s H scope (compEnvC scope cl C X.env) fp) Z G k W0 false → PG (X.blk s H scope (compEnvC scope cl C X.env) fp) tg (gTg X.K tt))
    (ht : ∀ (s : Shared) (H : Hp) (C : Addr) (cl : List (Str × Addr)) (fp : List Addr), Mx (X.blk s H scope (compEnvC scope cl C X.env) fp) Z G k W0 false → MC (X.blk s H scope (compEnvC scope cl C X.env) fp) Z G ifs it)
    (hk : ∀ (s : Shared) (H : Hp) (C : Addr) (cl : List (Str × Addr)) (fp : List Addr), Mx (X.blk s H scope (compEnvC scope cl C X.env) fp) Z G k W0 false → ME (X.blk s H scope (compEnvC scope cl C X.env) fp) Z G W0 kx ia)
    (he : ∀ (s : Shared) (H : Hp) (C : Addr) (cl : List (Str × Addr)) (fp : List Addr), Mx (X.blk s H scope (compEnvC scope cl C X.env) fp) Z G k W0 false → ME (X.blk s H scope (compEnvC scope cl C X.env) fp) Z G W0 vx ie)
    (ok : blkC X.N X.env.scope scope own = true := by rfl) (ho : own.map (·.2) = tt.slots := by rfl) (hs : ∀ x, foldedSetIterable iter X.env x = pure x := by intro _; rfl) : ME X Z G W (.DictComp kx vx [⟨tg, iter, ifs, 0⟩] scope pos) (.dc ia ie tt ii it) :=
  se_dc M.F.zk M.calm M.nd hi (blkOk_by ok) ho (fun s H C cl fp => hg s H C cl fp (M.blk s H C cl fp)) (fun s H C cl fp => ht s H C cl fp (M.blk s H C cl fp)) (fun s H C cl fp => hk s H C cl fp (M.blk s H C cl fp)) (fun s H C cl fp => he s H C cl fp (M.blk s H C cl fp)) hs
/-! ### statements -/
theorem mb_nil (M : Mx X Z G k W t) : MB X Z G W [] .nil := ss_nil
theorem mb_cons (M : Mx X Z G k W t) {s : Stmt} {ss : List Stmt} {i : Stm} {js : Stms} (h1 : MS X Z G W s i) (h2 : MB X Z G W ss js) : MB X Z G W (s :: ss) (.cons i js) := ss_cons (w1 := wpS G i) (w2 := wpSs G js) h1 h2
theorem ms_pass (M : Mx X Z G k W t) : MS X Z G W (.Pass pos) .pass := ss_pass
theorem ms_brk (M : Mx X Z G k W t) : MS X Z G W (.Break pos) .brk := ss_brk
theorem ms_cnt (M : Mx X Z G k W t) : MS X Z G W (.Continue pos) .cnt := ss_cnt
theorem ms_ret (M : Mx X Z G k W t) (ha : ME X Z G W a₀ ia) : MS X Z G W (.Return (some a₀) pos) (.ret ia) := ss_ret ha
theorem ms_retN (M : Mx X Z G k W t) : MS X Z G W (.Return none pos) (.ret (.lit .non)) := ss_retN
theorem ms_ex (M : Mx X Z G k W t) (ha : ME X Z G W a₀ ia) (hs : swapsWith a₀ none pos.line X.env = pure false := by rfl) : MS X Z G W (.Expr a₀ pos) (.ex ia) := ss_ex ha hs
theorem ms_set (M : Mx X Z G k W t) (i : Nat) {x : Str} (ha : ME X Z G W a₀ ia) (hi : X.N[i]? = some x := by rfl) (hx : Loc X.env.scope x := by first | exact Or.inl rfl | exact Or.inr rfl) (hf : X.fn x = true ∨ X.env.scope.names.lookup x = some .local := by first | exact Or.inl rfl | exact Or.inr rfl)
    (hs : swapsWith a₀ (some (.Name x p)) pos.line X.env = pure false := by rfl) : MS X Z G W (.Assign [.Name x p] a₀ pos) (.set i ia) := ss_set M.nd hi hx hf ha hs
theorem ms_setLc (M : Mx X Z G k W t) (i : Nat) {y : Str} {elt iter : Expr} {ifs : List Expr} {scope : Scope} (own : List (Str × Nat)) {ii : Itr} {it : Exo} {tt : Tg} (hi : MI X Z G W tg iter ii)
    (hg : ∀ (s : Shared) (H : Hp) (C : Addr) (cl : List (Str × Addr)) (fp : List Addr), Mx (X.blk s H scope (compEnvC scope cl C X.env) fp) Z G k W0 false → PG (X.blk s H scope (compEnvC scope cl C X.env) fp) tg (gTg X.K tt))
    (ht : ∀ (s : Shared) (H : Hp) (C : Addr) (cl : List (Str × Addr)) (fp : List Addr), Mx (X.blk s H scope (compEnvC scope cl C X.env) fp) Z G k W0 false → MC (X.blk s H scope (compEnvC scope cl C X.env) fp) Z G ifs it)
    (he : ∀ (s : Shared) (H : Hp) (C : Addr) (cl : List (Str × Addr)) (fp : List Addr), Mx (X.blk s H scope (compEnvC scope cl C X.env) fp) Z G k W0 false → ME (X.blk s H scope (compEnvC scope cl C X.env) fp) Z G W0 elt ie)
    (hy : X.N[i]? = some y := by rfl) (hyl : X.env.scope.names.lookup y = some .local := by rfl) (hsw : swapsWith (.ListComp elt [⟨tg, iter, ifs, 0⟩] scope pos) (some (.Name y p)) apos.line X.env = pure true := by rfl)
    (ok : blkC X.N X.env.scope scope own = true := by rfl) (ho : own.map (·.2) = tt.slots := by rfl) (hs : ∀ x, foldedSetIterable iter X.env x = pure x := by intro _; rfl) : MS X Z G W (.Assign [.Name y p] (.ListComp elt [⟨tg, iter, ifs, 0⟩] scope pos) apos) (.set i (.lc ie tt ii it)) :=
  ss_setLc M.F.zk M.calm M.nd hy hyl hsw hi (blkOk_by ok) ho (fun s H C cl fp => hg s H C cl fp (M.blk s H C cl fp)) (fun s H C cl fp => ht s H C cl fp (M.blk s H C cl fp)) (fun s H C cl fp => he s H C cl fp (M.blk s H C cl fp)) hs
theorem ms_unp (M : Mx X Z G k W t) {is : List Nat} {es : List Expr} {kk : Nat} {tp : Pos} (hg : PG X (.Tuple es kk tp) (gTg X.K (.tp is))) (ha : ME X Z G W a₀ ia) (hs : swapsWithSole [.Tuple es kk tp] a₀ pos.line X.env = pure false := by rfl) (hw : swappedStores [.Tuple es kk tp] a₀ X.env = pure none := by rfl)
    (h1 : (assignEach [.Tuple es kk tp] X.env).map (·.2) = [assign (.Tuple es kk tp) X.env] := by rfl) : MS X Z G W (.Assign [.Tuple es kk tp] a₀ pos) (.unp is ia) := ss_unp M.F.zk hg ha hs hw h1
theorem ms_unpl (M : Mx X Z G k W t) {is : List Nat} {es : List Expr} {kk : Nat} {tp : Pos} (h : PGs X es (gIs is)) (ha : ME X Z G W a₀ ia) (hn : (assignEach es X.env).length = is.length := by rfl) (hst : (assignEach es X.env).findIdx? (·.1) = none := by rfl) (hs : swapsWithSole [.Tuple es kk tp] a₀ pos.line X.env = pure false := by rfl) (hw : swappedStores [.Tuple es kk tp] a₀ X.env = pure none := by rfl)
    (h1 : (assignEach [.Tuple es kk tp] X.env).map (·.2) = [assign (.Tuple es kk tp) X.env] := by rfl) : MS X Z G W (.Assign [.Tuple es kk tp] a₀ pos) (.unpl is ia) := ss_unpl M.F.zk (pg_lst M.calm h hn hst) ha hs hw h1
theorem ms_par (M : Mx X Z G k W t) (i j : Nat) {x y : Str} {px py pt : Pos} {kt k2 : Nat} {pt2 : Pos} (ha : MA X Z G W [a₀, b₀] is) (hij : i ≠ j := by decide) (hi : X.N[i]? = some x := by rfl) (hj : X.N[j]? = some y := by rfl) (hx : X.env.scope.names.lookup x = some .local := by rfl) (hy : X.env.scope.names.lookup y = some .local := by rfl)
    (hw : swappedStores [.Tuple [.Name x px, .Name y py] kt pt] (.Tuple [a₀, b₀] k2 pt2) X.env = pure (some [x, y]) := by rfl) (hs : swapsWithSole [.Tuple [.Name x px, .Name y py] kt pt] (.Tuple [a₀, b₀] k2 pt2) pos.line X.env = pure false := by rfl) :
    MS X Z G W (.Assign [.Tuple [.Name x px, .Name y py] kt pt] (.Tuple [a₀, b₀] k2 pt2) pos) (.unp [i, j] (.tup is)) := ss_par M.calm M.nd hi hj hij hx hy ha hw hs
theorem ms_par3 (M : Mx X Z G k W t) (i j l : Nat) {x y z : Str} {px py pz pt : Pos} {kt k2 : Nat} {pt2 : Pos} (ha : MA X Z G W [a₀, b₀, c₀] is) (hij : i ≠ j := by decide) (hil : i ≠ l := by decide) (hjl : j ≠ l := by decide) (hi : X.N[i]? = some x := by rfl) (hj : X.N[j]? = some y := by rfl) (hl : X.N[l]? = some z := by rfl) (hx : X.env.scope.names.lookup x = some .local := by rfl) (hy : X.env.scope.names.lookup y = some .local := by rfl) (hz : X.env.scope.names.lookup z = some .local := by rfl)
    (hw : swappedStores [.Tuple [.Name x px, .Name y py, .Name z pz] kt pt] (.Tuple [a₀, b₀, c₀] k2 pt2) X.env = pure (some [x, y, z]) := by rfl) (hs : swapsWithSole [.Tuple [.Name x px, .Name y py, .Name z pz] kt pt] (.Tuple [a₀, b₀, c₀] k2 pt2) pos.line X.env = pure false := by rfl) :
    MS X Z G W (.Assign [.Tuple [.Name x px, .Name y py, .Name z pz] kt pt] (.Tuple [a₀, b₀, c₀] k2 pt2) pos) (.unp [i, j, l] (.tup is)) := ss_par3 M.calm M.nd hi hj hl hij hil hjl hx hy hz ha hw hs
theorem ms_unpa (M : Mx X Z G k W t) {f g : Nat} {x y : Str} {kk : Nat} {p1 p2 tp : Pos} (ha : ME X Z G W a₀ ia) (ho : ME X Z G W b₀ ib) (ho2 : ME X Z G W c₀ ic) (hf : Nat.blt f Z.nf = true := by rfl) (hg : Nat.blt g Z.nf = true := by rfl) (hx : x = Z.fld f := by rfl) (hy : y = Z.fld g := by rfl)
    (hs : swapsWithSole [.Tuple [.Attribute b₀ x p1, .Attribute c₀ y p2] kk tp] a₀ pos.line X.env = pure false := by rfl) (hw : swappedStores [.Tuple [.Attribute b₀ x p1, .Attribute c₀ y p2] kk tp] a₀ X.env = pure none := by rfl)
    (h1 : (assignEach [.Tuple [.Attribute b₀ x p1, .Attribute c₀ y p2] kk tp] X.env).map (·.2) = [assign (.Tuple [.Attribute b₀ x p1, .Attribute c₀ y p2] kk tp) X.env] := by rfl) (hn : (assignEach [.Attribute b₀ x p1, .Attribute c₀ y p2] X.env).length = 2 := by rfl) (hst : (assignEach [.Attribute b₀ x p1, .Attribute c₀ y p2] X.env).findIdx? (·.1) = none := by rfl)
    (h2 : (assignEach [.Attribute b₀ x p1, .Attribute c₀ y p2] X.env).map (·.2) = assign (.Attribute b₀ x p1) X.env :: (assignEach [.Attribute c₀ y p2] X.env).map (·.2) := by rfl) (h3 : (assignEach [.Attribute c₀ y p2] X.env).map (·.2) = assign (.Attribute c₀ y p2) X.env :: (assignEach [] X.env).map (·.2) := by rfl) :
    MS X Z G W (.Assign [.Tuple [.Attribute b₀ x p1, .Attribute c₀ y p2] kk tp] a₀ pos) (.unpa ib f ic g ia) := ss_unpa M.F M.calm (ltb hf) (ltb hg) hx hy ha ho ho2 hs hw h1 hn hst h2 h3
theorem ms_setix (M : Mx X Z G k W t) {tp : Pos} (hv : ME X Z G W a₀ ia) (ho : ME X Z G W b₀ ib) (hi : ME X Z G W c₀ ic)
    (ha : ∀ v, assign (.Subscript b₀ c₀ tp) X.env v = (do
      let ov ← holding [v] (eval b₀ X.env)
      let iv ← holding [v, ov] (eval c₀ X.env)
      standAt tp
      holding [v, ov, iv] (setItem ov iv v)
      release [v, ov, iv] []) := by intro _; rfl)
    (hs : swapsWithSole [.Subscript b₀ c₀ tp] a₀ pos.line X.env = pure false := by rfl) (hw : swappedStores [.Subscript b₀ c₀ tp] a₀ X.env = pure none := by rfl) (h1 : (assignEach [.Subscript b₀ c₀ tp] X.env).map (·.2) = [assign (.Subscript b₀ c₀ tp) X.env] := by rfl) :
    MS X Z G W (.Assign [.Subscript b₀ c₀ tp] a₀ pos) (.setix ib ic ia) := ss_setix (by have := M.F.hu; omega) hv ho hi ha hs hw h1
theorem ms_aug (M : Mx X Z G k W t) (i : Nat) {x : Str} {op : Bop} {o : Operator} (ha : ME X Z G W a₀ ia) (ho : o = bopOf op := by rfl) (hi : X.N[i]? = some x := by rfl) (hx : Loc X.env.scope x := by first | exact Or.inl rfl | exact Or.inr rfl) (hf : X.fn x = true ∨ X.env.scope.names.lookup x = some .local := by first | exact Or.inl rfl | exact Or.inr rfl) :
    MS X Z G W (.AugAssign (.Name x p) o a₀ pos) (.aug i op ia) := ss_aug M.F.zk M.nd hi hx hf ha ho
theorem ms_setat (M : Mx X Z G k W t) {f : Nat} {x : Str} (hv : ME X Z G W a₀ ia) (ho : ME X Z G W b₀ ib) (hf : Nat.blt f Z.nf = true := by rfl) (hx : x = Z.fld f := by rfl) (hs : swapsWith a₀ (some (.Attribute b₀ x p)) pos.line X.env = pure false := by rfl) : MS X Z G W (.Assign [.Attribute b₀ x p] a₀ pos) (.setat ib f ia) := ss_setat M.F (ltb hf) hx hv ho hs
theorem ms_augat (M : Mx X Z G k W t) {f : Nat} {x : Str} {op : Bop} {o : Operator} (hv : ME X Z G W a₀ ia) (ho : ME X Z G W b₀ ib) (hf : Nat.blt f Z.nf = true := by rfl) (hx : x = Z.fld f := by rfl) (hop : o = bopOf op := by rfl) : MS X Z G W (.AugAssign (.Attribute b₀ x p) o a₀ pos) (.augat ib f op ia) := ss_augat M.F (ltb hf) hx hv ho hop
theorem ms_ife (M : Mx X Z G k W t) {s1 s2 : List Stmt} {j1 j2 : Stms} (hc : MT X Z G W c₀ ic) (h1 : MB X Z G W s1 j1) (h2 : MB X Z G W s2 j2) : MS X Z G W (.If c₀ s1 s2 pos) (.ife ic j1 j2) := ss_ife hc h1 h2
theorem ms_whl (M : Mx X Z G k W t) {body : List Stmt} {jb : Stms} (hc : MT X Z G W c₀ ic) (hb : MB X Z G W body jb) : MS X Z G W (.While c₀ body [] pos) (.whl ic jb) := ss_whl M.hp hc hb
theorem ms_for (M : Mx X Z G k W t) {body : List Stmt} {iter : Expr} {ii : Itr} {jb : Stms} {tt : Tg} (hi : MI X Z G W tg iter ii) (hg : PG X tg (gTg X.K tt)) (hb : MB X Z G W body jb) (hs : ∀ x, foldedSetIterable iter X.env x = pure x := by intro _; rfl) : MS X Z G W (.For tg iter body [] pos) (.for_ tt ii jb) := ss_for M.F.zk M.hp M.calm hi hg hb hs
/-! ### exceptions -/
/-- what is known of the exceptions' classes: without __init__ -/
structure X0 (K : PySem.W.Frag) (Z : Nm) (G : Gam) (c : Nat) : Prop where
  cn : Z.nc ≤ c ∧ c < Z.nx
  fl : G.xfl c = []
  q : PySem.W.excIn K (Z.cla c) [.type "ValueError", .type "Exception", .type "BaseException", .type "object"] "ValueError.__new__" = true
  ex : PySem.W.subIn K (.ref (Z.cla c)) (.type "BaseException") = some true
  ty : PySem.W.typeIn K (.ref (Z.cla c)) = some (.type "type")
theorem ms_raise0 (M : Mx X Z G k W t) {c : Nat} {x : Str} (h : X0 X.K Z G c) (hx : x = Z.cln c := by rfl) (hg : Gl X x := by rfl) (hdb : (x == ("__debug__" : Str)) = false := by decide +kernel) : MS X Z G W (.Raise (some (.Call (.Name x p) [] [] apos)) none pos) (.raise c .nil) := by
  subst hx; exact ss_raise0 M.calm M.tk h.cn h.fl PySem.F.excBase_ValueError h.q (M.T.cl c h.cn.2).1 (M.T.cl c h.cn.2).2 (raises_own h.ex h.ty) hg hdb
/-- with its own __init__, at f -/
structure X1 (P : Program) (w : World) (K : PySem.W.Frag) (mg : Str → Option Value) (base : Heap) (Z : Nm) (G : Gam) (c : Nat) : Prop where
  cn : Z.nc ≤ c ∧ c < Z.nx
  fl : ∀ f ∈ G.xfl c, f < Z.nf
  sm : (G.xfl c).length ≤ 1000
  T : OexC K (Z.cla c)
  ini : ∃ f fd ps, PySem.W.findIn K (.ref (Z.cla c)) "__init__" = some (some (.ref f)) ∧ PySem.W.typeIn K (.ref f) = some (.type "function") ∧ FnOk P w K mg base (L2.CX P w) 1 f fd ps (SpI (Z.cla c) ((G.xfl c).map Z.fld)) ∧ Binds K fd ps []
theorem ms_raiseI (M : Mx X Z G k W t) {c : Nat} {x : Str} (hk : 2 ≤ k) (h : X1 X.prog X.w X.K X.mg X.base Z G c) (ha : MA X Z G W (e₀ :: es₀) is) (hx : x = Z.cln c := by rfl) (hg : Gl X x := by rfl) (hdb : (x == ("__debug__" : Str)) = false := by decide +kernel)
    (he : starEach (e₀ :: es₀) X.env = (false, eval e₀ X.env) :: starEach es₀ X.env := by rfl) (hpl : (backTo apos (starEach es₀ X.env)).any (·.1) = false := by rfl) : MS X Z G W (.Raise (some (.Call (.Name x p) (e₀ :: es₀) [] apos)) none pos) (.raise c is) := by
  subst hx
  obtain ⟨f, fd, ps, h1, h2, h3, h4⟩ := h.ini
  exact ss_raiseI (fI := 0) (j := 0) M.calm M.tk h.cn h.fl h.T h1 h2 h3 M.F.room.room h4 hg (M.T.cl c h.cn.2).1 ha hdb he hpl h.sm
end
end Mini
end L2
/-! Mini, part O: try over the small language; the levels; the law's end -/
namespace L2
namespace Mini
open PySem PySem.Spec PyProof.Rows
theorem btw {a b c : Nat} (h : (Nat.ble a b && Nat.blt b c) = true) : a ≤ b ∧ b < c := by
  rw [Bool.and_eq_true] at h
  exact ⟨Nat.le_of_ble_eq_true h.1, ltb h.2⟩
/-- what is known of all exceptions -/
structure Xal (P : Program) (w : World) (K : PySem.W.Frag) (mg : Str → Option Value) (base : Heap) (Z : Nm) (G : Gam) : Prop where
  x0 : ∀ c, Z.nc ≤ c ∧ c < Z.nx → G.xfl c = [] → X0 K Z G c
  x1 : ∀ c, Z.nc ≤ c ∧ c < Z.nx → G.xfl c ≠ [] → X1 P w K mg base Z G c
  exm : ∀ c, Z.nc ≤ c ∧ c < Z.nx → ExmOk K Z G c
  xf : ∀ f, f < Z.nfx → XfsOk K Z f
abbrev XA (X : Cx) (Z : Nm) (G : Gam) : Prop := Xal X.prog X.w X.K X.mg X.base Z G
section
variable {X : Cx} {Z : Nm} {G : Gam} {k : Nat} {W : WX} {t : Bool} {a₀ b₀ c₀ e₀ tg : Expr} {es₀ : List Expr} {ia ib ic ie : Ex} {is : Exs} {pos apos p : Pos}
theorem ms_r0 (M : Mx X Z G k W t) (A : XA X Z G) {c : Nat} {x : Str} (hc : (Nat.ble Z.nc c && Nat.blt c Z.nx) = true := by rfl) (hl : Z.xfl c = [] := by rfl) (hx : x = Z.cln c := by rfl) (hg : Gl X x := by rfl) (hdb : (x == ("__debug__" : Str)) = false := by decide +kernel) : MS X Z G W (.Raise (some (.Call (.Name x p) [] [] apos)) none pos) (.raise c .nil) :=
  ms_raise0 M (A.x0 c (btw hc) (by rw [M.T.xf]; exact hl)) hx hg hdb
theorem ms_r1 (M : Mx X Z G (k + 2) W t) (A : XA X Z G) {c : Nat} {x : Str} (ha : MA X Z G W (e₀ :: es₀) is) (hc : (Nat.ble Z.nc c && Nat.blt c Z.nx) = true := by rfl) (hl : (Z.xfl c).isEmpty = false := by rfl) (hx : x = Z.cln c := by rfl) (hg : Gl X x := by rfl) (hdb : (x == ("__debug__" : Str)) = false := by decide +kernel)
    (he : starEach (e₀ :: es₀) X.env = (false, eval e₀ X.env) :: starEach es₀ X.env := by rfl) (hpl : (backTo apos (starEach es₀ X.env)).any (·.1) = false := by rfl) : MS X Z G W (.Raise (some (.Call (.Name x p) (e₀ :: es₀) [] apos)) none pos) (.raise c is) :=
  ms_raiseI M (Nat.le_add_left 2 k) (A.x1 c (btw hc) (by rw [M.T.xf]; intro q; rw [q] at hl; cases hl)) ha hx hg hdb he hpl
theorem Mx.tr (M : Mx X Z G k W t) (W' : WX) (pn : List (Addr × Obj)) (xe : Value → Shared → Prop) (tk : Takes (X.tr pn xe) W') (hp : PassesOwn (model X.prog X.w) X.A X.env xe) : Mx (X.tr pn xe) Z G k W' true := ⟨M.F, M.T, tk, M.calm, M.nd, hp, fun h => Bool.noConfusion h⟩
theorem mh_nil (M : Mx X Z G k W t) : HsOk X Z W G [] [] := hs_nil
theorem nam_of (M : Mx X Z G k W t) {c : Nat} {x : Str} (hc : c < Z.nx) (hx : x = Z.cln c) (hg : Gl X x) (hdb : (x == ("__debug__" : Str)) = false) : Names X x (.ref (Z.cla c)) := ⟨hg, hdb, .inl (by rw [hx]; exact (M.T.cl c hc).1)⟩
theorem mh_ret (M : Mx X Z G k W t) (A : XA X Z G) {c : Nat} {x : Str} {np p1 : Pos} {hds : List ExceptHandler} {hs : List (Nat × Su)} {e : Expr} {d : D} {v : V} (he : ∀ (a : Addr) (pn : List (Addr × Obj)), PE (X.suite a pn) e (tC v)) (rd : ∀ H, RD Z H d v) (r : HsOk X Z W G hds hs)
    (hc : (Nat.ble Z.nc c && Nat.blt c Z.nx) = true := by rfl) (hx : x = Z.cln c := by rfl) (hg : Gl X x := by rfl) (hdb : (x == ("__debug__" : Str)) = false := by decide +kernel) : HsOk X Z W G (.ExceptHandler (some (.Name x np)) none [.Return (some e) pos] p1 :: hds) ((c, .ret (.lit d)) :: hs) :=
  hs_ret (A.exm c (btw hc)) (nam_of M (btw hc).2 hx hg hdb) he rd r
theorem mh_retS (M : Mx X Z G k W t) (A : XA X Z G) {c : Nat} {x y : Str} {l : List Nat} {np p1 p2 : Pos} {j : Nat} {hds : List ExceptHandler} {hs : List (Nat × Su)} (r : HsOk X Z W G hds hs) (h : y = st l := by decide +kernel)
    (hc : (Nat.ble Z.nc c && Nat.blt c Z.nx) = true := by rfl) (hx : x = Z.cln c := by rfl) (hg : Gl X x := by rfl) (hdb : (x == ("__debug__" : Str)) = false := by decide +kernel) : HsOk X Z W G (.ExceptHandler (some (.Name x np)) none [.Return (some (.Constant (.str y) j p2)) pos] p1 :: hds) ((c, .ret (.lit (.str l))) :: hs) := by
  subst h; exact mh_ret M A (fun a pn => pe_str) (fun _ => .str) r hc hx hg hdb
theorem mh_retB (M : Mx X Z G k W t) (A : XA X Z G) {c : Nat} {x : Str} {b : Bool} {np p1 p2 : Pos} {j : Nat} {hds : List ExceptHandler} {hs : List (Nat × Su)} (r : HsOk X Z W G hds hs)
    (hc : (Nat.ble Z.nc c && Nat.blt c Z.nx) = true := by rfl) (hx : x = Z.cln c := by rfl) (hg : Gl X x := by rfl) (hdb : (x == ("__debug__" : Str)) = false := by decide +kernel) : HsOk X Z W G (.ExceptHandler (some (.Name x np)) none [.Return (some (.Constant (.bool b) j p2)) pos] p1 :: hds) ((c, .ret (.lit (.bl b))) :: hs) :=
  mh_ret M A (fun a pn => pe_bl) (fun _ => .bl) r hc hx hg hdb
theorem mh_retN (M : Mx X Z G k W t) (A : XA X Z G) {c : Nat} {x : Str} {np p1 p2 : Pos} {j : Nat} {hds : List ExceptHandler} {hs : List (Nat × Su)} (r : HsOk X Z W G hds hs)
    (hc : (Nat.ble Z.nc c && Nat.blt c Z.nx) = true := by rfl) (hx : x = Z.cln c := by rfl) (hg : Gl X x := by rfl) (hdb : (x == ("__debug__" : Str)) = false := by decide +kernel) : HsOk X Z W G (.ExceptHandler (some (.Name x np)) none [.Return (some (.Constant .none j p2)) pos] p1 :: hds) ((c, .ret (.lit .non)) :: hs) :=
  mh_ret M A (fun a pn => pe_non) (fun _ => .non) r hc hx hg hdb
theorem mh_cnt (M : Mx X Z G k W t) (A : XA X Z G) {c : Nat} {x : Str} {np p1 : Pos} {hds : List ExceptHandler} {hs : List (Nat × Su)} (r : HsOk X Z W G hds hs)
    (hc : (Nat.ble Z.nc c && Nat.blt c Z.nx) = true := by rfl) (hx : x = Z.cln c := by rfl) (hg : Gl X x := by rfl) (hdb : (x == ("__debug__" : Str)) = false := by decide +kernel) : HsOk X Z W G (.ExceptHandler (some (.Name x np)) none [.Continue pos] p1 :: hds) ((c, .cnt) :: hs) := hs_cnt (A.exm c (btw hc)) (nam_of M (btw hc).2 hx hg hdb) r
theorem mh_pass (M : Mx X Z G k W t) (A : XA X Z G) {c : Nat} {x : Str} {np p1 : Pos} {hds : List ExceptHandler} {hs : List (Nat × Su)} (r : HsOk X Z W G hds hs)
    (hc : (Nat.ble Z.nc c && Nat.blt c Z.nx) = true := by rfl) (hx : x = Z.cln c := by rfl) (hg : Gl X x := by rfl) (hdb : (x == ("__debug__" : Str)) = false := by decide +kernel) : HsOk X Z W G (.ExceptHandler (some (.Name x np)) none [.Pass pos] p1 :: hds) ((c, .pass) :: hs) := hs_pass (A.exm c (btw hc)) (nam_of M (btw hc).2 hx hg hdb) r
theorem mh_setS (M : Mx X Z G k W t) (A : XA X Z G) {c : Nat} (i : Nat) {x y z : Str} {l : List Nat} {np p1 p2 p3 : Pos} {j : Nat} {hds : List ExceptHandler} {hs : List (Nat × Su)} (r : HsOk X Z W G hds hs) (h : z = st l := by decide +kernel)
    (hi : X.N[i]? = some y := by rfl) (hy : Loc X.env.scope y := by first | exact Or.inl rfl | exact Or.inr rfl) (hf : X.fn y = true ∨ X.env.scope.names.lookup y = some .local := by first | exact Or.inl rfl | exact Or.inr rfl) (hs' : swapsWith (.Constant (.str z) j p3) (some (.Name y p2)) pos.line X.env = pure false := by rfl)
    (hc : (Nat.ble Z.nc c && Nat.blt c Z.nx) = true := by rfl) (hx : x = Z.cln c := by rfl) (hg : Gl X x := by rfl) (hdb : (x == ("__debug__" : Str)) = false := by decide +kernel) : HsOk X Z W G (.ExceptHandler (some (.Name x np)) none [.Assign [.Name y p2] (.Constant (.str z) j p3) pos] p1 :: hds) ((c, .set i (.str l)) :: hs) := by
  subst h; exact hs_set (A.exm c (btw hc)) (nam_of M (btw hc).2 hx hg hdb) (fun a pn => pe_str) (fun _ => .str) M.nd hi hy hf hs' r
theorem mh_setN (M : Mx X Z G k W t) (A : XA X Z G) {c : Nat} (i : Nat) {x y : Str} {np p1 p2 p3 : Pos} {j : Nat} {hds : List ExceptHandler} {hs : List (Nat × Su)} (r : HsOk X Z W G hds hs)
    (hi : X.N[i]? = some y := by rfl) (hy : Loc X.env.scope y := by first | exact Or.inl rfl | exact Or.inr rfl) (hf : X.fn y = true ∨ X.env.scope.names.lookup y = some .local := by first | exact Or.inl rfl | exact Or.inr rfl) (hs' : swapsWith (.Constant .none j p3) (some (.Name y p2)) pos.line X.env = pure false := by rfl)
    (hc : (Nat.ble Z.nc c && Nat.blt c Z.nx) = true := by rfl) (hx : x = Z.cln c := by rfl) (hg : Gl X x := by rfl) (hdb : (x == ("__debug__" : Str)) = false := by decide +kernel) : HsOk X Z W G (.ExceptHandler (some (.Name x np)) none [.Assign [.Name y p2] (.Constant .none j p3) pos] p1 :: hds) ((c, .set i .non) :: hs) :=
  hs_set (A.exm c (btw hc)) (nam_of M (btw hc).2 hx hg hdb) (fun a pn => pe_non) (fun _ => .non) M.nd hi hy hf hs' r
theorem mh_exf (M : Mx X Z G k W t) (A : XA X Z G) {c f : Nat} (i : Nat) {x n fx : Str} {np p1 p2 p3 : Pos} {hds : List ExceptHandler} {hs : List (Nat × Su)} (r : HsOk X Z W G hds hs) (hi : X.N[i]? = some n := by rfl) (hln : X.env.kindOf n = some .local := by rfl)
    (hv : Vis X.env.scope n := by first | exact Or.inl rfl | exact Or.inr (Or.inl rfl) | exact Or.inr (Or.inr rfl)) (hd : (n == ("__debug__" : Str)) = false := by decide +kernel) (hcd : (n == ("__classdict__" : Str)) = false := by decide +kernel) (hf : Nat.blt f Z.nfx = true := by rfl) (hfx : fx = Z.fld f := by rfl)
    (hb : attributeBase (.Name n p2) fx X.env (eval (.Name n p2) X.env) = eval (.Name n p2) X.env := by rfl)
    (hc : (Nat.ble Z.nc c && Nat.blt c Z.nx) = true := by rfl) (hx : x = Z.cln c := by rfl) (hg : Gl X x := by rfl) (hdb : (x == ("__debug__" : Str)) = false := by decide +kernel) : HsOk X Z W G (.ExceptHandler (some (.Name x np)) (some n) [.Return (some (.Attribute (.Name n p2) fx p3)) pos] p1 :: hds) ((c, .ret (.exf i f)) :: hs) :=
  hs_exf M.F.zk (A.exm c (btw hc)) (nam_of M (btw hc).2 hx hg hdb) M.nd hi hln hv hd hcd hfx (A.xf f (ltb hf)) hb r
theorem mh_exf2 (M : Mx X Z G k W t) (A : XA X Z G) {c f g k2 : Nat} (i : Nat) {x n fx gx : Str} {np p1 p2 p3 p4 p5 p6 : Pos} {hds : List ExceptHandler} {hs : List (Nat × Su)} (r : HsOk X Z W G hds hs) (hi : X.N[i]? = some n := by rfl) (hln : X.env.kindOf n = some .local := by rfl)
    (hv : Vis X.env.scope n := by first | exact Or.inl rfl | exact Or.inr (Or.inl rfl) | exact Or.inr (Or.inr rfl)) (hd : (n == ("__debug__" : Str)) = false := by decide +kernel) (hcd : (n == ("__classdict__" : Str)) = false := by decide +kernel) (hf : Nat.blt f Z.nfx = true := by rfl) (hfx : fx = Z.fld f := by rfl) (hf2 : Nat.blt g Z.nfx = true := by rfl) (hgx : gx = Z.fld g := by rfl)
    (hb : attributeBase (.Name n p2) fx X.env (eval (.Name n p2) X.env) = eval (.Name n p2) X.env := by rfl) (hb2 : attributeBase (.Name n p4) gx X.env (eval (.Name n p4) X.env) = eval (.Name n p4) X.env := by rfl)
    (hs1 : starEach [.Attribute (.Name n p2) fx p3, .Attribute (.Name n p4) gx p5] X.env = (false, eval (.Attribute (.Name n p2) fx p3) X.env) :: starEach [.Attribute (.Name n p4) gx p5] X.env := by rfl) (hs2 : starEach [.Attribute (.Name n p4) gx p5] X.env = (false, eval (.Attribute (.Name n p4) gx p5) X.env) :: starEach [] X.env := by rfl)
    (hc : (Nat.ble Z.nc c && Nat.blt c Z.nx) = true := by rfl) (hx : x = Z.cln c := by rfl) (hg : Gl X x := by rfl) (hdb : (x == ("__debug__" : Str)) = false := by decide +kernel) :
    HsOk X Z W G (.ExceptHandler (some (.Name x np)) (some n) [.Return (some (.Tuple [.Attribute (.Name n p2) fx p3, .Attribute (.Name n p4) gx p5] k2 p6)) pos] p1 :: hds) ((c, .ret (.exf2 i f g)) :: hs) :=
  hs_exf2 M.F.zk (A.exm c (btw hc)) (nam_of M (btw hc).2 hx hg hdb) M.nd hi hln hv hd hcd hfx hgx (A.xf f (ltb hf)) (A.xf g (ltb hf2)) hb hb2 hs1 hs2 r
theorem ms_try (M : Mx X Z G k W t) {body : List Stmt} {h₀ : ExceptHandler} {hds : List ExceptHandler} {hs : List (Nat × Su)} {jb : Stms} (hb : ∀ (W' : WX) (pn : List (Addr × Obj)) (xe : Value → Shared → Prop), Mx (X.tr pn xe) Z G k W' true → MB (X.tr pn xe) Z G W' body jb) (hh : HsOk X Z W G (h₀ :: hds) hs)
    (hst : X.stack = X.env :: X.outer := by rfl) (hf : X.env.frame = some X.env.locals := by rfl) : MS X Z G W (.Try body (h₀ :: hds) [] [] pos) (.try_ jb hs) := ss_try hst hf M.tk (fun W' pn xe tk hp => hb W' pn xe (M.tr W' pn xe tk hp)) hh
end
/-! ### the levels -/
/-- what is fixed of a program: a def's slots, parameters, body; a class's __init__ .. -/
structure Prg where
  ir : Nat → Option (Nat × Nat × Stms)
  io : Nat → Option Nat
  mt : Nat → Nat → Option Nat
  xfl : Nat → List Nat
  xsub : Nat → Nat → Bool
  nfn : Nat
def env0 (L : Nat) (ds : List D) : Env := ds.map some ++ List.replicate (L - ds.length) none
def lvl (p : Prg) : Nat → Gam
  | 0 => ⟨fun _ _ _ _ _ => False, fun _ _ _ _ _ => False, p.mt, p.xfl, p.xsub, p.nfn⟩
  | n + 1 => ⟨fun i ds S Q E => match p.ir i with | some (L, m, b) => ds.length = m ∧ wpSs (lvl p n) b { nx := fun _ S' => Q .non S', rt := Q } (fun x _ S' => E x S') (env0 L ds) S | none => False,
    fun c ds S Q E => match p.io c with | some i => (lvl p n).fn i ds S Q E | none => False, p.mt, p.xfl, p.xsub, p.nfn⟩
theorem lvl_mt (p : Prg) (n : Nat) : (lvl p n).mt = p.mt := by cases n <;> rfl
/-- the written part's word of a program's defs and classes -/
structure Std (P : Program) (w : World) (K : PySem.W.Frag) (mg : Str → Option Value) (base : Heap) (Z : Nm) (p : Prg) : Prop where
  zk : Z.K = K
  cls : ∀ c, c < Z.nc → Cls K (Z.cla c)
  na : ∀ c f, c < Z.nc → f < Z.nf → NoAttr K (Z.cla c) (Z.fld f)
  mth : ∀ c m i, p.mt c m = some i → Meth K (Z.cla c) (Z.mn m) (Z.fa i)
  mnf : ∀ c m i, p.mt c m = some i → ∀ f, f < Z.nf → Z.fld f ≠ Z.mn m
  inis : ∀ c i, p.io c = some i → c < Z.nc ∧ Mk K (Z.cla c) (Z.fa i)
  fns : ∀ i L m b, p.ir i = some (L, m, b) → ∃ x qual st N ps fd, Fun K x qual st (Z.fa i) fd ∧ FnScope N ps (defScope st) ∧ Binds K fd ps [] ∧ N.length = L ∧ ps.length = m ∧
    ∀ (n : Nat) (cdv : Value) (A : Around) (outer : List PySem.Env) (s : Shared) (H : Hp) (E : XK), Mx (cxOf (L2.CX P w) P w K mg base N qual (defScope st) (Z.fa i) cdv A outer s H E) Z (lvl p n) (n + 2) (fun cls d _ H' => E cls d H') false →
      MB (cxOf (L2.CX P w) P w K mg base N qual (defScope st) (Z.fa i) cdv A outer s H E) Z (lvl p n) (fun cls d _ H' => E cls d H') (defBody st) b
theorem er_start {Z : Nm} {H : Hp} {ds : List D} {vs : List V} {N : List Str} (r : RDs Z H ds vs) : ER Z H (env0 N.length ds) (start N vs) := by
  have hl := r.length
  refine ⟨by simp [env0, start, hl], fun i d h => ?_⟩
  unfold Env.get env0 at h
  by_cases hi : i < ds.length
  · rw [List.getElem?_append_left (by simpa using hi), List.getElem?_map, List.getElem?_eq_getElem hi] at h
    cases h
    obtain ⟨v, h1, h2⟩ := r.get (List.getElem?_eq_getElem hi)
    refine ⟨v, ?_, h2⟩
    unfold start
    rw [List.getElem?_append_left (by simp; omega), List.getElem?_map, h1]
    rfl
  · rw [List.getElem?_append_right (by simpa using hi)] at h
    rw [List.getElem?_replicate] at h
    split at h
    · rename_i e
      split at e <;> cases e
    · cases h
theorem fn_lvl {P : Program} {w : World} {K : PySem.W.Frag} {mg : Str → Option Value} {base : Heap} {Z : Nm} {p : Prg} {n i L m : Nat} {b : Stms} {x qual : Str} {st : Stmt} {N ps : List Str} {fd : FuncData} (ih : ∀ A, Rm (n + 2) A → Fx P w K mg base A Z (lvl p n) (n + 2)) (B : ∀ n, Tab K mg Z (lvl p n))
    (e : p.ir i = some (L, m, b)) (F : Fun K x qual st (Z.fa i) fd) (Sc : FnScope N ps (defScope st)) (hN : N.length = L) (hp : ps.length = m)
    (body : ∀ (cdv : Value) (A : Around) (outer : List PySem.Env) (s : Shared) (H : Hp) (E : XK), Mx (cxOf (L2.CX P w) P w K mg base N qual (defScope st) (Z.fa i) cdv A outer s H E) Z (lvl p n) (n + 2) (fun cls d _ H' => E cls d H') false →
      MB (cxOf (L2.CX P w) P w K mg base N qual (defScope st) (Z.fa i) cdv A outer s H E) Z (lvl p n) (fun cls d _ H' => E cls d H') (defBody st) b) :
    FnR P w K mg base (L2.CX P w) (n + 1 + 2) (Z.fa i) fd ps (LS Z ((lvl p (n + 1)).fn i)) := by
  refine Fun.okR F (k := n + 2) Sc (fun vs H Q E h => ?_) (fun cdv A' outer s H vs Q E hr' h => ?_)
  · obtain ⟨ds, S, Qa, Ea, rd, sr, w', _⟩ := h
    unfold lvl at w'
    dsimp only at w'
    rw [e] at w'
    rw [← rd.length, w'.1, hp]
  · obtain ⟨ds, S, Qa, Ea, rd, sr, w', q, qe⟩ := h
    unfold lvl at w'
    dsimp only at w'
    rw [e] at w'
    refine ⟨_, body cdv A' outer s H E ⟨ih _ hr', B n, takes_of rfl rfl rfl rfl, rfl, Sc.nd, passes_of rfl, fun _ _ _ _ _ _ h => h⟩, ?_⟩
    refine ⟨env0 L ds, S, _, _, by rw [← hN]; exact er_start rd, sr, w'.2, ⟨fun σ S' τ H' k er sr' h => q _ _ _ _ k sr' .non h, q, fun _ _ _ _ _ _ _ h => h.elim, fun _ _ _ _ _ _ _ h => h.elim⟩, fun x cls dd σ S' τ H' k er sr' xr h => qe x cls dd S' H' k sr' xr h⟩
theorem lvl_ok {P : Program} {w : World} {K : PySem.W.Frag} {mg : Str → Option Value} {base : Heap} {Z : Nm} {p : Prg} (T : Std P w K mg base Z p) (B : ∀ n, Tab K mg Z (lvl p n)) : ∀ n A, Rm (n + 2) A → Fx P w K mg base A Z (lvl p n) (n + 2)
  | 0, A, hr => ⟨T.zk, hr, fun i ds S Q E h => h.elim, T.cls, T.na, T.mth, T.mnf, fun c ds S Q E h => h.elim⟩
  | n + 1, A, hr => by
    have ih := lvl_ok T B n
    refine ⟨T.zk, hr, fun i ds S Q E h => ?_, T.cls, T.na, T.mth, T.mnf, fun c ds S Q E h => ?_⟩
    · have h' := h
      unfold lvl at h'
      dsimp only at h'
      split at h'
      · rename_i L m b e
        obtain ⟨x, qual, st, N, ps, fd, F, Sc, hb, hN, hp, body⟩ := T.fns i L m b e
        exact ⟨fd, ps, fn_lvl ih B e F Sc hN hp (body n), hb, F.kp⟩
      · exact h'.elim
    · unfold lvl at h
      dsimp only at h
      split at h
      · rename_i i e
        obtain ⟨hc, M⟩ := T.inis c i e
        obtain ⟨fd, ps, ok, hb, kp⟩ := (ih A (hr.mono (Nat.le_succ _))).fn i ds S Q E h
        refine ⟨hc, Z.fa i, fd, ps, n + 2, M, ok.imp fun vs H Q E h2 => ?_, hb, Nat.le_refl _⟩
        obtain ⟨ds, S, Qa, Ea, rd, sr, w', q, qe⟩ := h2
        unfold lvl at w'
        dsimp only at w'
        rw [e] at w'
        exact ⟨ds, S, Qa, Ea, rd, sr, w', q, qe⟩
      · exact h.elim
end Mini
end L2
/-! Mini, part P: the law's end -/
namespace L2
namespace Mini
open PySem PySem.Spec PyProof.Rows
/-- what the law promises: True -/
def SpOut (K : PySem.W.Frag) : Sp := fun vs H Q _ => ∃ (a : Addr) (ns : List Int), vs = [.ref a] ∧ SqL K H a (ns.map V.int) ∧ ns.length ≤ 63 ∧ ∀ H', Q (.bl true) H'
/-- the written part holds no list -/
def noList (K : PySem.W.Frag) : Bool := K.all fun p => match p.2.cls with | .type t => t != "list" | _ => true
theorem lookup_mem {a : Addr} {o : Obj} : ∀ {K : PySem.W.Frag}, K.lookup a = some o → (a, o) ∈ K
  | [], h => by cases h
  | (b, u) :: r, h => by
    rw [List.lookup_cons] at h
    split at h
    · rename_i e
      cases h
      rw [beq_iff_eq.mp e]
      exact List.mem_cons_self
    · exact List.mem_cons_of_mem _ (lookup_mem h)
theorem noList_of {K : PySem.W.Frag} (h : noList K = true) {a : Addr} {o : Obj} (l : K.lookup a = some o) : o.cls ≠ .type "list" := fun e => by
  have q := List.all_eq_true.mp h _ (lookup_mem l)
  dsimp only at q
  rw [e] at q
  exact absurd q (by decide)
theorem sp_out {K : PySem.W.Frag} {Z : Nm} {G : Gam} {i : Nat} (nl : noList K = true) (pure : ∀ (S : Sto) (a : Addr) (ns : List Int), ns.length ≤ 63 → rd S a = some (ns.map D.int) → G.fn i [.ref a] S (fun d _ => d = .bl true) (fun _ _ => False))
    (vs : List V) (H : Hp) (Q : VK) (E : XK) (h : SpOut K vs H Q E) : LS Z (G.fn i) vs H Q E := by
  obtain ⟨a, ns, rfl, hS, hl, q⟩ := h
  have rds : ∀ l : List Int, RDs Z H (l.map D.int) (l.map V.int) := fun l => by
    induction l with
    | nil => exact .nil
    | cons n l ih => exact .cons .int ih
  have fin : ∀ c, rd (fun b => if b = a then some c else none) a = some (ns.map D.int) → CellAt Z H a c → LS Z (G.fn i) [.ref a] H Q E := fun c hr hc => by
    refine ⟨[.ref a], fun b => if b = a then some c else none, _, _, .cons .ref .nil, fun b d e => ?_, pure _ a ns hl hr, fun d v S' H' _ _ r e => ?_, fun _ _ _ _ _ _ _ _ z => z.elim⟩
    · dsimp only at e
      by_cases hb : b = a
      · subst hb
        rw [if_pos rfl] at e
        cases e
        exact hc
      · rw [if_neg hb] at e; cases e
    · subst e
      cases r
      exact q H'
  rcases hS with (h | ⟨o, h⟩) | ⟨o, its, n, h1, h2, _⟩
  · exact fin (.lst (ns.map D.int)) (by unfold rd; simp) ⟨_, h, rds ns⟩
  · exact fin (.fls (ns.map D.int)) (by unfold rd; simp) ⟨o, _, h, rds ns⟩
  · exact absurd h2 (noList_of nl h1)
theorem cx_false {P : Program} {w : World} {H : Hp} {s : Shared} {e : Value} {s' : Shared} (h : L2.CX P w [] H s (fun _ _ _ => False) e s') : False := by
  obtain ⟨_, _, _, _, _, _, _, _, _, _, _, _, z⟩ := h
  exact z
theorem walkM {l : PySem.W.OpenLaw} {j k : Nat} {q : Program} {loose : List Str} {XP : (Str → Option Value) → Heap → Prop} {YP : World → Heap → Prop} {d : DefRec} {K : Params → PySem.W.Frag} (hn : l.most = some 63) (hdf : d.params.defaults = []) (hr : Room k callerA) (hj : j + 9 ≤ 3 * k) (hk : 150 ≤ k)
    (hY : ∀ (w : World) (h : Heap), YP w h → (K w.params).In h)
    (F : ∀ (w : World) (mg : Str → Option Value) (fa : Addr) (h : Heap), (K w.params).In h → h.Ns mainGlobals mg → mg d.name = some (.ref fa) →
      ∃ fd : FuncData, (∀ (s : Shared) (u : Value), BindsTo s fd ⟨[u], []⟩ [("script", u)]) ∧ ∀ base : Heap, (K w.params).In base → base.Ns mainGlobals mg → FnR l.prog w (K w.params) mg base (L2.CX l.prog w) j fa fd ["script"] (SpOut (K w.params))) :
    PySem.W.WalkO q loose XP YP l.row.toRowW d [] (fun f vs => PySem.call f vs) :=
  L2.walk_of (n := 63) (k := k) (x := "script") (CX := fun w => L2.CX l.prog w) (sp := fun w => SpOut (K w.params)) hn (by decide) hdf hr hY (fun w mg fa h a b c => let ⟨fd, h1, h2⟩ := F w mg fa h a b c; ⟨fd, h1, fun base x y => (h2 base x y).top hj hk⟩) (fun _ _ a ns hl _ hS => ⟨a, ns, rfl, hS, hl, fun _ => rfl⟩) fun _ _ _ _ _ z => cx_false z
end Mini
end L2
/-! Mini, part Q: help for what is proved in the small language alone -/
namespace L2
namespace Mini
open PySem PySem.Spec PyProof.Rows
/-! ### a store that grows -/
def Sx (S S' : Sto) : Prop := ∀ a c, S a = some c → S' a = some c
theorem Sx.refl (S : Sto) : Sx S S := fun _ _ h => h
theorem Sx.trans {S S1 S2 : Sto} (a : Sx S S1) (b : Sx S1 S2) : Sx S S2 := fun c d h => b c d (a c d h)
theorem Sx.new {S : Sto} {p : Addr} {c : Cell} (n : S p = none) : Sx S (S.upd p c) := fun a d h => by
  by_cases e : a = p
  · subst e; rw [n] at h; cases h
  · rw [Sto.upd_ne e]; exact h
/-- all but the cell at p -/
def Sxb (p : Addr) (S S' : Sto) : Prop := ∀ a c, a ≠ p → S a = some c → S' a = some c
theorem Sx.b {S S' : Sto} {p : Addr} (h : Sx S S') : Sxb p S S' := fun a c _ q => h a c q
theorem Sxb.refl (p : Addr) (S : Sto) : Sxb p S S := fun _ _ _ h => h
theorem Sxb.trans {p : Addr} {S S1 S2 : Sto} (a : Sxb p S S1) (b : Sxb p S1 S2) : Sxb p S S2 := fun c d n h => b c d n (a c d n h)
theorem Sxb.put {p : Addr} {S : Sto} {c : Cell} : Sxb p S (S.upd p c) := fun a d n h => by rw [Sto.upd_ne n]; exact h
theorem Sxb.of_new {p : Addr} {S S' : Sto} (n : S p = none) (h : Sxb p S S') : Sx S S' := fun a c q => by
  by_cases e : a = p
  · subst e; rw [n] at q; cases q
  · exact h a c e q
theorem rd_sx {S S' : Sto} {a : Addr} {ds : List D} (h : Sx S S') (e : rd S a = some ds) : rd S' a = some ds := by
  unfold rd at e ⊢
  split at e
  · rename_i q; cases e; rw [h _ _ q]
  · rename_i q; cases e; rw [h _ _ q]
  · cases e
theorem rd_sxb {p a : Addr} {S S' : Sto} {ds : List D} (h : Sxb p S S') (n : a ≠ p) (e : rd S a = some ds) : rd S' a = some ds := by
  unfold rd at e ⊢
  split at e
  · rename_i q; cases e; rw [h _ _ n q]
  · rename_i q; cases e; rw [h _ _ n q]
  · cases e
theorem rd_lst {S : Sto} {a : Addr} {ds : List D} (h : S a = some (.lst ds)) : rd S a = some ds := by unfold rd; rw [h]
theorem new_ne {S : Sto} {a p : Addr} {c : Cell} (h : S a = some c) (n : S p = none) : a ≠ p := fun e => by rw [e, n] at h; cases h
theorem rd_upd {S : Sto} {p : Addr} {ds : List D} : rd (S.upd p (.lst ds)) p = some ds := by unfold rd; rw [Sto.upd_same]
/-! ### plain data: no addresses -/
mutual
def gd : D → Bool
  | .non => true
  | .bl _ => true
  | .int _ => true
  | .str l => l.all fun c => decide (c < 0x110000)
  | .tup ds => gds ds
  | .ref _ => false
  | .fn _ => false
def gds : List D → Bool
  | [] => true
  | d :: ds => gd d && gds ds
end
mutual
def pdo : D → PyData
  | .non => .none
  | .bl b => .bool b
  | .int i => .int i
  | .str l => .str (st l)
  | .tup ds => .tuple (pdos ds)
  | .ref _ => .none
  | .fn _ => .none
def pdos : List D → List PyData
  | [] => []
  | d :: ds => pdo d :: pdos ds
end
mutual
theorem pd_of (S : Sto) : ∀ {d : D}, gd d = true → PD S d (pdo d)
  | .non, _ => .non
  | .bl _, _ => .bl
  | .int _, _ => .int
  | .str l, h => .str (by simpa [gd] using h)
  | .tup ds, h => .tup (pds_of S (by simpa [gd] using h))
  | .ref _, h => by cases h
  | .fn _, h => by cases h
theorem pds_of (S : Sto) : ∀ {ds : List D}, gds ds = true → PDs S ds (pdos ds)
  | [], _ => .nil
  | d :: ds, h => by
    have h' : gd d = true ∧ gds ds = true := by simpa [gds] using h
    exact .cons (pd_of S h'.1) (pds_of S h'.2)
end
mutual
/-- the depth -/
def dd : D → Nat
  | .tup ds => dds ds + 1
  | _ => 0
def dds : List D → Nat
  | [] => 0
  | d :: ds => max (dd d) (dds ds)
end
mutual
theorem dd_pdo : ∀ d : D, (pdo d).depth = dd d
  | .non => rfl
  | .bl _ => rfl
  | .int _ => rfl
  | .str _ => rfl
  | .tup ds => by show PyData.depthAll (pdos ds) + 1 = dds ds + 1; rw [dds_pdo ds]
  | .ref _ => rfl
  | .fn _ => rfl
theorem dds_pdo : ∀ ds : List D, PyData.depthAll (pdos ds) = dds ds
  | [] => rfl
  | d :: ds => by show max (pdo d).depth (PyData.depthAll (pdos ds)) = max (dd d) (dds ds); rw [dd_pdo d, dds_pdo ds]
end
mutual
/-- equal as Python has it, of plain data -/
def deq : D → D → Bool
  | .non, .non => true
  | .bl a, .bl b => a == b
  | .bl a, .int j => (if a then 1 else 0) == j
  | .int i, .bl b => i == (if b then 1 else 0)
  | .int i, .int j => i == j
  | .str x, .str y => x == y
  | .tup xs, .tup ys => deqs xs ys
  | _, _ => false
def deqs : List D → List D → Bool
  | [], [] => true
  | x :: xs, y :: ys => deq x y && deqs xs ys
  | _, _ => false
end
theorem st_beq (x y : List Nat) : (st x == st y) = (x == y) := by
  by_cases e : x = y
  · subst e; simp
  · have : ¬ st x = st y := fun q => e (st_inj q)
    rw [beq_eq_false_iff_ne.mpr this, beq_eq_false_iff_ne.mpr e]
mutual
theorem deq_pdo : ∀ x y : D, gd x = true → gd y = true → PyData.eqv (pdo x) (pdo y) = deq x y
  | .tup xs, .tup ys, h, h2 => by
    show PyData.eqvAll (pdos xs) (pdos ys) = deqs xs ys
    exact deqs_pdo xs ys (by simpa [gd] using h) (by simpa [gd] using h2)
  | .str x, .str y, _, _ => st_beq x y
  | .bl a, .bl b, _, _ => rfl
  | .bl a, .int b, _, _ => rfl
  | .int a, .bl b, _, _ => rfl
  | .int a, .int b, _, _ => rfl
  | .non, y, _, h2 => by cases y <;> first | rfl | cases h2
  | .bl _, .non, _, _ => rfl
  | .bl _, .str _, _, _ => rfl
  | .bl _, .tup _, _, _ => rfl
  | .int _, .non, _, _ => rfl
  | .int _, .str _, _, _ => rfl
  | .int _, .tup _, _, _ => rfl
  | .str _, .non, _, _ => rfl
  | .str _, .bl _, _, _ => rfl
  | .str _, .int _, _, _ => rfl
  | .str _, .tup _, _, _ => rfl
  | .tup _, .non, _, _ => rfl
  | .tup _, .bl _, _, _ => rfl
  | .tup _, .int _, _, _ => rfl
  | .tup _, .str _, _, _ => rfl
  | .ref _, _, h, _ => by cases h
  | .fn _, _, h, _ => by cases h
  | _, .ref _, _, h => by cases h
  | _, .fn _, _, h => by cases h
theorem deqs_pdo : ∀ xs ys : List D, gds xs = true → gds ys = true → PyData.eqvAll (pdos xs) (pdos ys) = deqs xs ys
  | [], [], _, _ => rfl
  | [], _ :: _, _, _ => rfl
  | _ :: _, [], _, _ => rfl
  | x :: xs, y :: ys, h, h2 => by
    have h' : gd x = true ∧ gds xs = true := by simpa [gds] using h
    have h2' : gd y = true ∧ gds ys = true := by simpa [gds] using h2
    show (PyData.eqv (pdo x) (pdo y) && PyData.eqvAll (pdos xs) (pdos ys)) = (deq x y && deqs xs ys)
    rw [deq_pdo x y h'.1 h2'.1, deqs_pdo xs ys h'.2 h2'.2]
end
theorem eqv_of {S : Sto} {x y : D} (hx : gd x = true) (hy : gd y = true) (h : min (dd x) (dd y) ≤ 620) : Eqv S x y (deq x y) := by
  have e := Eqv.dat (pd_of S hx) (pd_of S hy) (show eqRoom (pdo x) (pdo y) by unfold eqRoom; rw [dd_pdo, dd_pdo]; exact h)
  rwa [deq_pdo x y hx hy] at e
/-- == of plain data -/
theorem eqW_of {S : Sto} {x y : D} {neg : Bool} {Q : QD} (hx : gd x = true) (hy : gd y = true) (h : min (dd x) (dd y) ≤ 620) (q : Q (.bl (neg ^^ deq x y)) S) : eqW x y neg S Q := by
  unfold eqW
  split
  · exact q
  · exact q
  · exact ⟨_, eqv_of hx hy h, q⟩
theorem eqW_t0 {S : Sto} {a : D} {ds : List D} {neg : Bool} {Q : QD} (hx : gd (.tup (a :: ds)) = true) (q : Q (.bl (neg ^^ false)) S) : eqW (.tup (a :: ds)) (.tup []) neg S Q :=
  eqW_of hx rfl (by simp [dd, dds]) q
/-- a list of plain data against [] -/
theorem eqW_nil {S : Sto} {a b : Addr} {ds : List D} {neg : Bool} {Q : QD} (h : rd S a = some ds) (g : gds ds = true) (h2 : rd S b = some []) (q : Q (.bl (neg ^^ ds.isEmpty)) S) : eqW (.ref a) (.ref b) neg S Q := by
  show ∃ r, Eqv S (.ref a) (.ref b) r ∧ Q (.bl (neg ^^ r)) S
  refine ⟨ds.isEmpty, ?_, q⟩
  have e := Eqv.dat (.ref h (pds_of S g)) (.ref h2 .nil) (show eqRoom (.list (pdos ds)) (.list []) by
    unfold eqRoom
    show min (PyData.depthAll (pdos ds) + 1) 1 ≤ 620
    omega)
  cases ds with
  | nil => exact e
  | cons d ds => exact e
/-! ### for the running of a text -/
theorem atI_0 {α : Type} {a : α} {r : List α} : atI (a :: r) 0 = some a := by
  unfold atI ixN
  rw [if_pos (by omega), if_pos (by simp only [List.length_cons]; omega)]
  rfl
theorem atI_1 {α : Type} {a b : α} {r : List α} : atI (a :: b :: r) 1 = some b := by
  unfold atI ixN
  rw [if_pos (by omega), if_pos (by simp only [List.length_cons]; omega)]
  rfl
theorem atI_2 {α : Type} {a b c : α} {r : List α} : atI (a :: b :: c :: r) 2 = some c := by
  unfold atI ixN
  rw [if_pos (by omega), if_pos (by simp only [List.length_cons]; omega)]
  rfl
theorem atI_nat {α : Type} {l : List α} {k : Nat} : atI l (k : Int) = l[k]? := by
  unfold atI
  by_cases h : k < l.length
  · unfold ixN
    rw [if_pos (by omega), if_pos (by omega)]
    rfl
  · unfold ixN
    rw [if_pos (by omega), if_neg (by omega), List.getElem?_eq_none (by omega)]
    rfl
theorem lb_nc {a : Nat} {l : List Nat} : (([] : List Nat) == a :: l) = false := rfl
theorem lb_cn {a : Nat} {l : List Nat} : (a :: l == ([] : List Nat)) = false := rfl
theorem lb_nn : (([] : List Nat) == []) = true := rfl
theorem lb_cc {a b : Nat} {l m : List Nat} : (a :: l == b :: m) = (a == b && l == m) := rfl
theorem ex_some {α : Type} {a : α} {P : α → Prop} : (∃ d, some a = some d ∧ P d) = P a := propext ⟨fun ⟨d, e, h⟩ => by cases e; exact h, fun h => ⟨a, rfl, h⟩⟩
theorem eqW_str {a b : List Nat} {neg : Bool} {S : Sto} {Q : QD} : eqW (.str a) (.str b) neg S Q = Q (.bl (neg ^^ (a == b))) S := rfl
theorem eqW_int {a b : Int} {neg : Bool} {S : Sto} {Q : QD} : eqW (.int a) (.int b) neg S Q = Q (.bl (neg ^^ (a == b))) S := rfl
theorem inW_chr {c : Nat} {b : List Nat} {neg : Bool} {S : Sto} {Q : QD} : inW (.str [c]) (.str b) neg S Q = Q (.bl (neg ^^ b.contains c)) S := rfl
theorem pdos_any {x : D} (hx : gd x = true) : ∀ ds : List D, gds ds = true → ((pdos ds).any fun q => PyData.eqv q (pdo x)) = ds.any fun d => deq d x
  | [], _ => rfl
  | d :: ds, h => by
    have h' : gd d = true ∧ gds ds = true := by simpa [gds] using h
    show (PyData.eqv (pdo d) (pdo x) || (pdos ds).any _) = (deq d x || ds.any _)
    rw [deq_pdo d x h'.1 hx, pdos_any hx ds h'.2]
theorem inL_of {S : Sto} {x : D} {ds : List D} (hx : gd x = true) (h : gds ds = true) (hd : dd x ≤ 180) : inW.InL S x ds (ds.any fun d => deq d x) :=
  ⟨pdo x, pdos ds, pd_of S hx, pds_of S h, by rw [dd_pdo]; exact hd, (pdos_any hx ds h).symm⟩
theorem inW_tup_eq {x : D} {ds : List D} {neg : Bool} {S : Sto} {Q : QD} : inW x (.tup ds) neg S Q = ∃ r, inW.InL S x ds r ∧ Q (.bl (neg ^^ r)) S := by
  cases x <;> try rfl
  rename_i l
  rcases l with _ | ⟨c, _ | ⟨d, r⟩⟩ <;> rfl
theorem inW_lst_eq {x : D} {a : Addr} {ds : List D} {neg : Bool} {S : Sto} {Q : QD} (e : rd S a = some ds) : inW x (.ref a) neg S Q = ∃ r, inW.InL S x ds r ∧ Q (.bl (neg ^^ r)) S := by
  have go : inW x (.ref a) neg S Q = (match S a with
    | some (.dct kvs) => (match x with
      | .int i => Q (.bl (neg ^^ (dget kvs (.inl i)).isSome)) S
      | .str l => Q (.bl (neg ^^ (dget kvs (.inr l)).isSome)) S
      | _ => False)
    | some (.lst ds) => ∃ r, inW.InL S x ds r ∧ Q (.bl (neg ^^ r)) S
    | some (.fls ds) => ∃ r, inW.InL S x ds r ∧ Q (.bl (neg ^^ r)) S
    | _ => False) := by
    cases x <;> try rfl
    rename_i l
    rcases l with _ | ⟨c, _ | ⟨d, r⟩⟩ <;> rfl
  rw [go]
  unfold rd at e
  split at e
  · rename_i q'; cases e; rw [q']
  · rename_i q'; cases e; rw [q']
  · cases e
/-- x in a tuple of plain data -/
theorem inW_tup {x : D} {ds : List D} {neg : Bool} {S : Sto} {Q : QD} (hx : gd x = true) (h : gds ds = true) (hd : dd x ≤ 180) (q : Q (.bl (neg ^^ ds.any fun d => deq d x)) S) : inW x (.tup ds) neg S Q := by
  rw [inW_tup_eq]
  exact ⟨_, inL_of hx h hd, q⟩
theorem inW_lst {x : D} {a : Addr} {ds : List D} {neg : Bool} {S : Sto} {Q : QD} (e : rd S a = some ds) (hx : gd x = true) (h : gds ds = true) (hd : dd x ≤ 180) (q : Q (.bl (neg ^^ ds.any fun d => deq d x)) S) : inW x (.ref a) neg S Q := by
  rw [inW_lst_eq e]
  exact ⟨_, inL_of hx h hd, q⟩
theorem sqW_t {ds : List D} {S : Sto} {R : List D → (Sto → Prop) → Prop} : sqW (.tup ds) S R = R ds (fun _ => True) := rfl
theorem sqW_s {l : List Nat} {S : Sto} {R : List D → (Sto → Prop) → Prop} : sqW (.str l) S R = (l.length ≤ sizeLine ∧ R (l.map fun c => D.str [c]) fun _ => True) := rfl
theorem sqW_r {a : Addr} {ds : List D} {S : Sto} {R : List D → (Sto → Prop) → Prop} (h : rd S a = some ds) (r : R ds (liveL a ds)) : sqW (.ref a) S R := by
  unfold rd at h
  unfold sqW
  dsimp only
  split at h
  · cases h; exact r
  · cases h; exact r
  · cases h
theorem binW_ai {i j : Int} {S : Sto} {Q : QD} : binW .add (.int i) (.int j) S Q = Q (.int (i + j)) S := rfl
theorem binW_si {i j : Int} {S : Sto} {Q : QD} : binW .sub (.int i) (.int j) S Q = Q (.int (i - j)) S := rfl
theorem binW_at {a b : List D} {S : Sto} {Q : QD} : binW .add (.tup a) (.tup b) S Q = (a.length + b.length ≤ sizeLine ∧ Q (.tup (a ++ b)) S) := rfl
theorem binW_as {a b : List Nat} {S : Sto} {Q : QD} : binW .add (.str a) (.str b) S Q = (a.length + b.length ≤ sizeLine ∧ Q (.str (a ++ b)) S) := rfl
theorem binW_mi {i j : Int} {S : Sto} {Q : QD} : binW .mul (.int i) (.int j) S Q = ((smallI i ∨ smallI j) ∧ Q (.int (i * j)) S) := rfl
theorem binW_ms {c : Nat} {k : Int} {S : Sto} {Q : QD} : binW .mul (.str [c]) (.int k) S Q = (0 ≤ k ∧ k ≤ 1000000 ∧ Q (.str (List.replicate k.toNat c)) S) := rfl
theorem binW_di {i j : Int} {S : Sto} {Q : QD} : binW .fdiv (.int i) (.int j) S Q = (j ≠ 0 ∧ j.natAbs < 1073741824 ∧ Q (.int (i.fdiv j)) S) := rfl
theorem binW_mo {i j : Int} {S : Sto} {Q : QD} : binW .mod (.int i) (.int j) S Q = (j ≠ 0 ∧ Q (.int (i.fmod j)) S) := rfl
theorem szl : 1000000 ≤ sizeLine := by rw [sizeLine_eq]; omega
theorem sz_le {n : Nat} (h : n ≤ 1000000) : (n ≤ sizeLine) = True := eq_true (Nat.le_trans h szl)
theorem sz_lt {n : Nat} (h : n < 1000000) : (n < sizeLine) = True := eq_true (Nat.lt_of_lt_of_le h szl)
theorem sz0 : (0 ≤ sizeLine) = True := sz_le (by omega)
theorem sz1 : (1 ≤ sizeLine) = True := sz_le (by omega)
theorem sz2 : (2 ≤ sizeLine) = True := sz_le (by omega)
theorem sz3 : (3 ≤ sizeLine) = True := sz_le (by omega)
theorem sz4 : (4 ≤ sizeLine) = True := sz_le (by omega)
theorem sz5 : (5 ≤ sizeLine) = True := sz_le (by omega)
theorem sz6 : (6 ≤ sizeLine) = True := sz_le (by omega)
theorem sz7 : (7 ≤ sizeLine) = True := sz_le (by omega)
theorem sz11 : (11 ≤ sizeLine) = True := sz_le (by omega)
/-- the comprehension that lists, all of it -/
theorem bi_all {S : Sto} {p : Addr} {bs : List Bool} {Q : QD} (h : rd S p = some (bs.map D.bl)) (q : Q (.bl (bs.all id)) S) : biW .all [.ref p] S Q := by
  have go : ∀ l : List Bool, blsOf (l.map D.bl) = some l := fun l => by
    induction l with
    | nil => rfl
    | cons b l ih => show (blsOf (l.map D.bl)).map (b :: ·) = _; rw [ih]; rfl
  exact ⟨_, bs, h, go bs, q⟩
theorem binW_ll {S : Sto} {a b : Addr} {xs ys : List D} {Q : QD} (h : S a = some (.lst xs)) (h2 : S b = some (.lst ys)) (hz : xs.length + ys.length ≤ 1000000) (q : ∀ p, S p = none → Q (.ref p) (S.upd p (.lst (xs ++ ys)))) : binW .add (.ref a) (.ref b) S Q :=
  ⟨xs, ys, h, h2, of_eq_true (sz_le hz), q⟩
/-! ### slices -/
theorem sIx_none {n d : Nat} : HT.sIx n d none = d := rfl
theorem sIx_nat {n d k : Nat} : HT.sIx n d (some (k : Int)) = min k n := by
  unfold HT.sIx
  dsimp only
  split <;> omega
theorem cut_from {α : Type} {xs : List α} {k : Nat} : cutD xs (some (k : Int)) none = xs.drop k := by
  unfold cutD
  rw [sIx_nat, sIx_none]
  by_cases h : k ≤ xs.length
  · rw [Nat.min_eq_left h, List.take_of_length_le (by rw [List.length_drop]; exact Nat.le_refl _)]
  · rw [Nat.min_eq_right (by omega), List.drop_eq_nil_of_le (Nat.le_refl _), List.drop_eq_nil_of_le (by omega), List.take_nil]
theorem cut_to {α : Type} {xs : List α} {k : Nat} : cutD xs none (some (k : Int)) = xs.take k := by
  unfold cutD
  rw [sIx_nat, sIx_none, List.drop_zero, Nat.sub_zero]
  by_cases h : k ≤ xs.length
  · rw [Nat.min_eq_left h]
  · rw [Nat.min_eq_right (by omega), List.take_of_length_le (Nat.le_refl _), List.take_of_length_le (by omega)]
theorem cut_mid {α : Type} {xs : List α} {k m : Nat} : cutD xs (some (k : Int)) (some (m : Int)) = (xs.take m).drop k := by
  unfold cutD
  rw [sIx_nat, sIx_nat]
  apply List.ext_getElem?
  intro i
  rw [List.getElem?_take, List.getElem?_drop, List.getElem?_drop, List.getElem?_take]
  by_cases h : k ≤ xs.length
  · rw [Nat.min_eq_left h]
    by_cases h1 : k + i < m
    · by_cases h2 : i < min m xs.length - k
      · rw [if_pos h2, if_pos h1]
      · rw [if_neg h2, if_pos h1, List.getElem?_eq_none (by omega)]
    · rw [if_neg h1, if_neg (by omega)]
  · rw [if_neg (by omega)]
    split
    · rw [List.getElem?_eq_none (by omega)]
    · rfl
theorem cut_1 {α : Type} {a : α} {xs : List α} : cutD (a :: xs) (some 1) none = xs := cut_from (xs := a :: xs) (k := 1)
/-! ### comprehensions, loops -/
/-- each item gives one (or none) -/
theorem goW_map {live : Sto → Prop} {turn : D → (Sto → Prop) → Sto → Prop} {p : Addr} {Q : Sto → Prop} {N : Nat} (f : D → Option D) (hl : ∀ S S', Sxb p S S' → live S → live S') :
    ∀ (ds : List D) (acc : List D) (S : Sto), acc.length + ds.length ≤ N → (∀ d, d ∈ ds → ∀ S1 acc K, Sxb p S S1 → S1 p = some (.lst acc) → acc.length < N → (∀ S', Sxb p S1 S' → S' p = some (.lst (acc ++ (f d).toList)) → K S') → turn d K S1) → S p = some (.lst acc) → live S →
      (∀ S', Sxb p S S' → S' p = some (.lst (acc ++ ds.filterMap f)) → live S' → Q S') → goW live turn ds S Q
  | [], acc, S, _, _, hp, lv, q => ⟨lv, q S (Sxb.refl p S) (by simpa using hp) lv⟩
  | d :: ds, acc, S, hN, ht, hp, lv, q => by
    simp only [List.length_cons] at hN
    refine ⟨lv, ht d List.mem_cons_self S acc _ (Sxb.refl p S) hp (by omega) fun S' x hp' => ?_⟩
    refine goW_map f hl ds _ S' ?_ (fun d' hd' S1 acc K x1 h1 hn k => ht d' (List.mem_cons_of_mem _ hd') S1 acc K (x.trans x1) h1 hn k) hp' (hl S S' x lv) fun S2 x2 h2 l2 => q S2 (x.trans x2) ?_ l2
    · rw [List.length_append]
      cases f d <;> simp <;> omega
    · rw [h2]
      rw [List.filterMap_cons]
      cases f d <;> simp
theorem bm_app {a : Addr} {ds : List D} {d : D} {S : Sto} {Q : QD} (h : S a = some (.lst ds)) (hz : ds.length < sizeLine) (q : Q .non (S.upd a (.lst (ds ++ [d])))) : bmW .append (.ref a) [d] S Q := by
  unfold bmW
  dsimp only
  rw [h]
  exact ⟨hz, q⟩
theorem bm_pop {a : Addr} {ds : List D} {d : D} {S : Sto} {Q : QD} (h : S a = some (.lst (ds ++ [d]))) (q : Q d (S.upd a (.lst ds))) : bmW .pop (.ref a) [] S Q := by
  unfold bmW
  dsimp only
  rw [h]
  refine ⟨d, by simp, ?_⟩
  rw [List.dropLast_concat]
  exact q
theorem snoc_cases {α : Type} (l : List α) : l = [] ∨ ∃ L b, l = L ++ [b] := by
  rcases List.eq_nil_or_concat l with h | ⟨L, b, h⟩
  · exact .inl h
  · exact .inr ⟨L, b, by rw [h, List.concat_eq_append]⟩
theorem forW_step {live : Sto → Prop} {t : Tg} {b : En → Env → Sto → Prop} {K : En} {d : D} {ds : List D} {σ σ' : Env} {S : Sto} (lv : live S) (e : tgW t d σ = some σ')
    (h : ∀ K' : En, (∀ σ2 S2, forW live t b K ds σ2 S2 → K'.nx σ2 S2) → (∀ σ2 S2, forW live t b K ds σ2 S2 → K'.ct σ2 S2) → (∀ d S2, K.rt d S2 → K'.rt d S2) → (∀ σ2 S2, K.nx σ2 S2 → K'.bk σ2 S2) → b K' σ' S) : forW live t b K (d :: ds) σ S := by
  refine ⟨lv, ?_⟩
  rw [e]
  exact h _ (fun _ _ h => h) (fun _ _ h => h) (fun _ _ h => h) (fun _ _ h => h)
/-! ### one statement after the other -/
section
variable {G : Gam} {ss : Stms} {K : En} {X : EX} {σ : Env} {S : Sto}
theorem st_nil (h : K.nx σ S) : wpSs G .nil K X σ S := h
theorem st_set {i : Nat} {e : Ex} (h : wpE G e σ S (fun d S1 => wpSs G ss K X (σ.set i (some d)) S1) (fun x S1 => X x σ S1)) : wpSs G (.cons (.set i e) ss) K X σ S := h
theorem st_unp {is : List Nat} {e : Ex} (h : wpE G e σ S (fun d S1 => match tgW (.tp is) d σ with | some σ' => wpSs G ss K X σ' S1 | none => False) (fun x S1 => X x σ S1)) : wpSs G (.cons (.unp is e) ss) K X σ S := h
theorem st_unpl {is : List Nat} {e : Ex} (h : wpE G e σ S (fun d S1 => match d with | .ref a => (match rd S1 a with | some ds => (match tgW (.tp is) (.tup ds) σ with | some σ' => wpSs G ss K X σ' S1 | none => False) | none => False) | _ => False) (fun x S1 => X x σ S1)) : wpSs G (.cons (.unpl is e) ss) K X σ S := h
theorem st_unpa {o o2 e : Ex} {f f2 : Nat} (h : wpE G e σ S (fun d S1 => match d with | .tup [a, b] => wpE G o σ S1 (fun x S2 => putatW x f a S2 (fun S3 => wpE G o2 σ S3 (fun y S4 => putatW y f2 b S4 (fun S5 => wpSs G ss K X σ S5)) (fun x S1 => X x σ S1))) (fun x S1 => X x σ S1) | _ => False) (fun x S1 => X x σ S1)) : wpSs G (.cons (.unpa o f o2 f2 e) ss) K X σ S := h
theorem st_setix {o i e : Ex} (h : wpE G e σ S (fun v S1 => wpE G o σ S1 (fun x S2 => wpE G i σ S2 (fun y S3 => setixW x y v S3 (fun S4 => wpSs G ss K X σ S4)) (fun x S1 => X x σ S1)) (fun x S1 => X x σ S1)) (fun x S1 => X x σ S1)) : wpSs G (.cons (.setix o i e) ss) K X σ S := h
theorem st_setat {o : Ex} {f : Nat} {e : Ex} (h : wpE G e σ S (fun v S1 => wpE G o σ S1 (fun x S2 => match x with | .ref p => (match S2 p with | some (.ins c fs) => fs.length < 1000 ∧ wpSs G ss K X σ (S2.upd p (.ins c (fput f v fs))) | _ => False) | _ => False) (fun x S1 => X x σ S1)) (fun x S1 => X x σ S1)) : wpSs G (.cons (.setat o f e) ss) K X σ S := h
theorem st_aug {i : Nat} {op : Bop} {e : Ex} (h : match σ.get i with | some x => wpE G e σ S (fun y S1 => augW op x y S1 (fun z S2 => wpSs G ss K X (σ.set i (some z)) S2)) (fun x S1 => X x σ S1) | none => False) : wpSs G (.cons (.aug i op e) ss) K X σ S := h
theorem st_augat {o : Ex} {f : Nat} {op : Bop} {e : Ex} (h : wpE G o σ S (fun x S1 => match x with | .ref p => (match S1 p with | some (.ins c fs) => (match fget fs f with | some d => wpE G e σ S1 (fun y S2 => augW op d y S2 (fun z S3 => (match S3 p with | some (.ins c' fs') => c' = c ∧ fs'.length < 1000 ∧ wpSs G ss K X σ (S3.upd p (.ins c' (fput f z fs'))) | _ => False))) (fun x S1 => X x σ S1) | none => False) | _ => False) | _ => False) (fun x S1 => X x σ S1)) :
    wpSs G (.cons (.augat o f op e) ss) K X σ S := h
theorem st_ife {c : Ex} {a b : Stms} (h : wpT G c σ S (fun r S1 => if r = true then wpSs G a { K with nx := fun σ' S' => wpSs G ss K X σ' S' } X σ S1 else wpSs G b { K with nx := fun σ' S' => wpSs G ss K X σ' S' } X σ S1) (fun x S1 => X x σ S1)) : wpSs G (.cons (.ife c a b) ss) K X σ S := h
theorem st_whl {c : Ex} {b : Stms} (h : whlW (fun σ S Q => wpT G c σ S Q (fun x S1 => X x σ S1)) (fun K σ S => wpSs G b K X σ S) { K with nx := fun σ' S' => wpSs G ss K X σ' S' } σ S) : wpSs G (.cons (.whl c b) ss) K X σ S := h
theorem st_for {t : Tg} {it : Itr} {b : Stms} (h : wpI G it σ S (fun ds live S1 => forW live t (fun K σ S => wpSs G b K X σ S) { K with nx := fun σ' S' => wpSs G ss K X σ' S' } ds σ S1) (fun x S1 => X x σ S1)) : wpSs G (.cons (.for_ t it b) ss) K X σ S := h
theorem st_ret {e : Ex} (h : wpE G e σ S K.rt (fun x S1 => X x σ S1)) : wpSs G (.cons (.ret e) ss) K X σ S := h
theorem st_brk (h : K.bk σ S) : wpSs G (.cons .brk ss) K X σ S := h
theorem st_cnt (h : K.ct σ S) : wpSs G (.cons .cnt ss) K X σ S := h
theorem st_pass (h : wpSs G ss K X σ S) : wpSs G (.cons .pass ss) K X σ S := h
theorem st_ex {e : Ex} (h : wpE G e σ S (fun _ S1 => wpSs G ss K X σ S1) (fun x S1 => X x σ S1)) : wpSs G (.cons (.ex e) ss) K X σ S := h
theorem st_raise {c : Nat} {es : Exs} (h : wpEs G es σ S (fun ds S1 => ds.length = (G.xfl c).length ∧ X ⟨c, ((G.xfl c).zip ds).reverse⟩ σ S1) (fun x S1 => X x σ S1)) : wpSs G (.cons (.raise c es) ss) K X σ S := h
theorem st_try {b : Stms} {hs : List (Nat × Su)} (h : wpSs G b { K with nx := fun σ' S' => wpSs G ss K X σ' S' } (fun x σ' S' => tryW G hs x { K with nx := fun σ' S' => wpSs G ss K X σ' S' } X σ' S') σ S) : wpSs G (.cons (.try_ b hs) ss) K X σ S := h
end
end Mini
end L2
/-! Mini, part R: the tape, lists that are made one by one -/
namespace L2
namespace Mini
open PySem PySem.Spec PyProof.Rows
theorem Sx.none_at {S S' : Sto} (h : Sx S S') {p : Addr} (n : S' p = none) : S p = none := by
  cases e : S p with
  | none => rfl
  | some c => rw [h p c e] at n; cases n
abbrev sFar : D := .str [102, 97, 114]
abbrev sTrm : D := .str [116, 101, 114, 109]
theorem sz8 : (8 ≤ sizeLine) = True := sz_le (by omega)
theorem sz9 : (9 ≤ sizeLine) = True := sz_le (by omega)
theorem sz10 : (10 ≤ sizeLine) = True := sz_le (by omega)
theorem sz12 : (12 ≤ sizeLine) = True := sz_le (by omega)
theorem sz13 : (13 ≤ sizeLine) = True := sz_le (by omega)
theorem sz14 : (14 ≤ sizeLine) = True := sz_le (by omega)
theorem sz15 : (15 ≤ sizeLine) = True := sz_le (by omega)
theorem sz16 : (16 ≤ sizeLine) = True := sz_le (by omega)
theorem sz17 : (17 ≤ sizeLine) = True := sz_le (by omega)
theorem sz18 : (18 ≤ sizeLine) = True := sz_le (by omega)
theorem sz19 : (19 ≤ sizeLine) = True := sz_le (by omega)
theorem sz20 : (20 ≤ sizeLine) = True := sz_le (by omega)
structure Tp (t c : Addr) (S : Sto) : Prop where
  ne : c ≠ t
  at_ : ∃ s : Int, S t = some (.lst [.ref c, .int s])
  cs : ∃ l : List Int, S c = some (.lst (l.map D.int))
/-- all but the tape -/
def Sd (t c : Addr) (S S' : Sto) : Prop := ∀ a d, a ≠ t → a ≠ c → S a = some d → S' a = some d
theorem Sd.refl (t c : Addr) (S : Sto) : Sd t c S S := fun _ _ _ _ h => h
theorem Sd.trans {t c : Addr} {S S1 S2 : Sto} (a : Sd t c S S1) (b : Sd t c S1 S2) : Sd t c S S2 := fun x d h1 h2 h => b x d h1 h2 (a x d h1 h2 h)
theorem Sx.d {S S' : Sto} (h : Sx S S') (t c : Addr) : Sd t c S S' := fun a d _ _ q => h a d q
theorem Tp.sx {t c : Addr} {S S' : Sto} (h : Tp t c S) (x : Sx S S') : Tp t c S' := ⟨h.ne, let ⟨s, e⟩ := h.at_; ⟨s, x _ _ e⟩, let ⟨l, e⟩ := h.cs; ⟨l, x _ _ e⟩⟩
theorem fmod_lt {i m : Int} (h : 0 < m) : 0 ≤ i.fmod m ∧ i.fmod m < m := ⟨Int.fmod_nonneg_of_pos i h, Int.fmod_lt_of_pos i h⟩
theorem ixN_0 {n : Nat} (h : 0 < n) : ixN n 0 = some 0 := by
  unfold ixN
  rw [if_pos (by omega), if_pos (by omega)]
  rfl
def forBody : Stms → Stms
  | .cons (.for_ _ _ b) _ => b
  | .cons _ r => forBody r
  | .nil => .nil
mutual
def pl : D → Bool
  | .int _ => true
  | .str l => l.all fun c => decide (c < 0x110000)
  | .tup ds => decide (ds.length ≤ 1000) && pls ds
  | _ => false
def pls : List D → Bool
  | [] => true
  | d :: ds => pl d && pls ds
end
theorem pls_get : ∀ {ds : List D} {k : Nat} {d : D}, pls ds = true → ds[k]? = some d → pl d = true ∧ dd d ≤ dds ds
  | [], _, _, _, e => by simp at e
  | a :: ds, 0, d, h, e => by
    cases e
    simp only [pls, Bool.and_eq_true] at h
    exact ⟨h.1, by simp only [dds]; omega⟩
  | a :: ds, k + 1, d, h, e => by
    simp only [pls, Bool.and_eq_true] at h
    have := pls_get h.2 (by simpa using e)
    exact ⟨this.1, by simp only [dds]; omega⟩
theorem trues_gd : ∀ n, gds (List.replicate n (D.bl true)) = true
  | 0 => rfl
  | n + 1 => by rw [List.replicate_succ]; simp [gds, gd, trues_gd n]
theorem trues_any : ∀ n, (List.replicate n (D.bl true)).any (fun d => deq d (.bl false)) = false
  | 0 => rfl
  | n + 1 => by rw [List.replicate_succ, List.any_cons, trues_any n]; rfl
theorem fm_true {α : Type} : ∀ l : List α, l.filterMap (fun _ => some (D.bl true)) = List.replicate l.length (D.bl true)
  | [] => rfl
  | a :: l => by rw [List.filterMap_cons, fm_true l]; rfl
theorem new_tp {t c p : Addr} {S : Sto} (h : Tp t c S) (hp : S p = none) : p ≠ t ∧ p ≠ c := by
  obtain ⟨s, es⟩ := h.at_
  obtain ⟨l, el⟩ := h.cs
  exact ⟨fun e => (by rw [← e, hp] at es; cases es), fun e => (by rw [← e, hp] at el; cases el)⟩
def Sxm (p l : Addr) (S S' : Sto) : Prop := ∀ a d, a ≠ p → a ≠ l → S a = some d → S' a = some d
theorem Sxm.refl (p l : Addr) (S : Sto) : Sxm p l S S := fun _ _ _ _ h => h
theorem Sxm.trans {p l : Addr} {S S1 S2 : Sto} (a : Sxm p l S S1) (b : Sxm p l S1 S2) : Sxm p l S S2 := fun x d h1 h2 h => b x d h1 h2 (a x d h1 h2 h)
theorem sxm_put {p l : Addr} {S : Sto} {c : Cell} : Sxm p l S (S.upd p c) := fun x d h1 _ hd => by rw [Sto.upd_ne h1]; exact hd
theorem fresh_sx {p l : Addr} {S S1 S2 : Sto} (x : Sx S S1) (y : Sxm p l S1 S2) (hp : S p = none) (hl : S l = none) : Sx S S2 := fun a d h =>
  y a d (fun e => by rw [e, hp] at h; cases h) (fun e => by rw [e, hl] at h; cases h) (x a d h)
/-- machine_at -/
theorem goW_inv {live : Sto → Prop} {turn : D → (Sto → Prop) → Sto → Prop} {Q : Sto → Prop} (I : List D → Sto → Prop) (ht : ∀ d ds S K, I (d :: ds) S → (∀ S', I ds S' → K S') → turn d K S) (hl : ∀ ds S, I ds S → live S) (hq : ∀ S, I [] S → Q S) :
    ∀ (ds : List D) (S : Sto), I ds S → goW live turn ds S Q
  | [], S, h => ⟨hl _ _ h, hq S h⟩
  | d :: ds, S, h => ⟨hl _ _ h, ht d ds S _ h fun S' h' => goW_inv I ht hl hq ds S' h'⟩
theorem Tp.new {t c p : Addr} {S : Sto} {x : Cell} (h : Tp t c S) (hp : S p = none) : Tp t c (S.upd p x) := h.sx (Sx.new hp)
theorem Tp.put {t c p : Addr} {S : Sto} {x : Cell} (h : Tp t c S) (h1 : p ≠ t) (h2 : p ≠ c) : Tp t c (S.upd p x) := ⟨h.ne, let ⟨s, e⟩ := h.at_; ⟨s, by rw [Sto.upd_ne (Ne.symm h1)]; exact e⟩, let ⟨l, e⟩ := h.cs; ⟨l, by rw [Sto.upd_ne (Ne.symm h2)]; exact e⟩⟩
theorem Sd.fresh {t c p : Addr} {S S1 : Sto} {x : Cell} (h : Sd t c S S1) (hp : S1 p = none) : Sd t c S (S1.upd p x) := h.trans (Sx.d (Sx.new hp) t c)
theorem Sd.over {t c p : Addr} {S S1 : Sto} {x : Cell} (h : Sd t c S S1) (hp : S p = none) : Sd t c S (S1.upd p x) := fun a d h1 h2 hd => by
  have ne : a ≠ p := new_ne hd hp
  rw [Sto.upd_ne ne]; exact h a d h1 h2 hd
theorem Sd.none_of {t c p : Addr} {S S1 : Sto} (h : Sd t c S S1) (h1 : p ≠ t) (h2 : p ≠ c) (hp : S1 p = none) : S p = none := by
  cases e : S p with
  | none => rfl
  | some x => rw [h p x h1 h2 e] at hp; cases hp
theorem pdos_get : ∀ (ds : List D) (j : Nat), (pdos ds)[j]? = (ds[j]?).map pdo
  | [], j => by simp [pdos]
  | d :: ds, 0 => by simp [pdos]
  | d :: ds, j + 1 => by simpa [pdos] using pdos_get ds j
theorem gds_get : ∀ {ds : List D} {j : Nat} {d : D}, gds ds = true → ds[j]? = some d → gd d = true
  | [], _, _, _, e => by simp at e
  | a :: ds, 0, d, h, e => by cases e; simp only [gds, Bool.and_eq_true] at h; exact h.1
  | a :: ds, j + 1, d, h, e => by simp only [gds, Bool.and_eq_true] at h; exact gds_get h.2 (by simpa using e)
/-- list.index of plain data -/
theorem bm_index {a : Addr} {ds : List D} {y d : D} {j : Nat} {S : Sto} {Q : QD} (h : S a = some (.lst ds)) (hy : gd y = true) (hd : gds ds = true) (d1 : dd y ≤ 60) (d2 : dds ds ≤ 60) (hj : ds[j]? = some d) (e : deq d y = true) (hno : ∀ m d', m < j → ds[m]? = some d' → deq d' y = false) (q : Q (.int (j : Nat)) S) : bmW .index (.ref a) [y] S Q := by
  unfold bmW
  dsimp only
  rw [h]
  refine ⟨pdo y, pdos ds, j, pdo d, pd_of S hy, pds_of S hd, by rw [dd_pdo]; exact d1, by rw [dds_pdo]; exact d2, by rw [pdos_get, hj]; rfl, by rw [deq_pdo d y (gds_get hd hj) hy]; exact e, fun m z' hm hz => ?_, q⟩
  rw [pdos_get] at hz
  cases hq : ds[m]? with
  | none => rw [hq] at hz; cases hz
  | some d' => rw [hq] at hz; cases hz; rw [deq_pdo d' y (gds_get hd hq) hy]; exact hno m d' hm hq
/-! ### dicts with numbers as keys -/
def dN (kv : List (Nat × D)) : List (Ky × D) := kv.map fun p => (Sum.inl (p.1 : Int), p.2)
def kget {α : Type} (kv : List (Nat × α)) (n : Nat) : Option α := (kv.find? fun p => decide (p.1 = n)).map (·.2)
theorem inl_iff {a b : Nat} : ((Sum.inl (a : Int) : Ky) = Sum.inl (b : Int)) ↔ a = b := ⟨fun h => by injection h with h; exact Int.ofNat.inj h, fun h => by rw [h]⟩
theorem dget_N (kv : List (Nat × D)) (n : Nat) : dget (dN kv) (.inl (n : Int)) = kget kv n := by
  induction kv with
  | nil => rfl
  | cons p kv ih =>
    unfold dget kget dN at *
    simp only [List.map_cons, List.find?_cons]
    by_cases h : p.1 = n
    · subst h; simp
    · have h2 : ¬ (Sum.inl (p.1 : Int) : Ky) = Sum.inl (n : Int) := fun e => h (inl_iff.mp e)
      simp only [h, h2, decide_false]
      exact ih
theorem kget_none {α : Type} {kv : List (Nat × α)} {n : Nat} : kget kv n = none ↔ n ∉ kv.map (·.1) := by
  unfold kget
  rw [Option.map_eq_none_iff, List.find?_eq_none]
  simp only [List.mem_map, decide_eq_true_eq]
  exact ⟨fun h ⟨p, hp, e⟩ => h p hp e, fun h p hp e => h ⟨p, hp, e⟩⟩
theorem kget_mem {α : Type} {kv : List (Nat × α)} {n : Nat} {d : α} (h : kget kv n = some d) : (n, d) ∈ kv := by
  unfold kget at h
  rw [Option.map_eq_some_iff] at h
  obtain ⟨p, hp, rfl⟩ := h
  have := List.find?_some hp
  rw [decide_eq_true_eq] at this
  rw [← this]
  exact List.mem_of_find?_eq_some hp
theorem kget_snoc {α : Type} {kv : List (Nat × α)} {n m : Nat} {d : α} (h : n ∉ kv.map (·.1)) : kget (kv ++ [(n, d)]) m = if m = n then some d else kget kv m := by
  unfold kget
  rw [List.find?_append]
  by_cases e : m = n
  · subst e
    have : kv.find? (fun p => decide (p.1 = m)) = none := by
      rw [List.find?_eq_none]
      intro p hp
      simp only [decide_eq_true_eq]
      exact fun q => h (List.mem_map.mpr ⟨p, hp, q⟩)
    rw [this]
    simp
  · rw [if_neg e]
    cases q : kv.find? (fun p => decide (p.1 = m)) with
    | none =>
      have : ¬ n = m := fun z => e z.symm
      simp [this]
    | some p => simp
theorem dput_new {kv : List (Nat × D)} {n : Nat} {d : D} (h : n ∉ kv.map (·.1)) : dput (dN kv) (.inl (n : Int)) d = dN (kv ++ [(n, d)]) := by
  unfold dput
  have : ((dN kv).any fun p => decide (p.1 = Sum.inl (n : Int))) = false := by
    rw [List.any_eq_false]
    intro p hp
    unfold dN at hp
    obtain ⟨q, hq, rfl⟩ := List.mem_map.mp hp
    simp only [decide_eq_true_eq]
    exact fun e => h (List.mem_map.mpr ⟨q, hq, inl_iff.mp e⟩)
  rw [if_neg (by rw [this]; exact Bool.false_ne_true)]
  simp [dN]
/-- the key is there: its value is another one -/
theorem dput_old {kv : List (Nat × D)} {n : Nat} {d : D} (h : n ∈ kv.map (·.1)) : dput (dN kv) (.inl (n : Int)) d = dN (kv.map fun p => if p.1 = n then (p.1, d) else p) := by
  unfold dput
  have : ((dN kv).any fun p => decide (p.1 = Sum.inl (n : Int))) = true := by
    rw [List.any_eq_true]
    obtain ⟨p, hp, e⟩ := List.mem_map.mp h
    exact ⟨(Sum.inl (p.1 : Int), p.2), List.mem_map.mpr ⟨p, hp, rfl⟩, by simp only [decide_eq_true_eq]; rw [e]⟩
  rw [if_pos this]
  simp only [dN, List.map_map]
  refine List.map_congr_left fun p _ => ?_
  simp only [Function.comp]
  by_cases e : p.1 = n
  · rw [if_pos e, if_pos (inl_iff.mpr e)]
  · rw [if_neg e, if_neg fun z => e (inl_iff.mp z)]
/-- distinct numbers below N are no more than N -/
theorem nodup_len : ∀ (N : Nat) (l : List Nat), l.Nodup → (∀ x ∈ l, x < N) → l.length ≤ N
  | 0, [], _, _ => Nat.le_refl _
  | 0, x :: l, _, h => absurd (h x List.mem_cons_self) (Nat.not_lt_zero _)
  | N + 1, l, hn, h => by
    by_cases hm : N ∈ l
    · have h1 := nodup_len N (l.erase N) (hn.erase N) fun x hx => by
        have := (List.Nodup.mem_erase_iff hn).mp hx
        have h2 := h x this.2
        have h3 := this.1
        omega
      rw [List.length_erase_of_mem hm] at h1
      omega
    · have := nodup_len N l hn fun x hx => by
        have h2 := h x hx
        have h3 : x ≠ N := fun e => hm (by rw [← e]; exact hx)
        omega
      omega
end Mini
end L2
/-! Mini, part T: terms -/
namespace L2
namespace Mini
open PySem PySem.Spec PyProof.Rows
inductive Tm where | av (n : Nat) | nm (l : List Nat) | fn (t : Tm) | cl (t u : Tm)
abbrev sAt : D := .str [97, 116]
abbrev sNm : D := .str [110, 97, 109, 101]
abbrev sFn : D := .str [102, 117, 110]
abbrev sCl : D := .str [99, 97, 108, 108]
def enc : Tm → D
  | .av n => .tup [sAt, .int n]
  | .nm l => .tup [sNm, .str l]
  | .fn t => .tup [sFn, enc t]
  | .cl t u => .tup [sCl, enc t, enc u]
def sz : Tm → Nat
  | .av _ => 1
  | .nm _ => 1
  | .fn t => sz t + 1
  | .cl t u => sz t + sz u + 1
def dp : Tm → Nat
  | .av _ => 1
  | .nm _ => 1
  | .fn t => dp t + 1
  | .cl t u => max (dp t) (dp u) + 1
def low (c : Nat) : Bool := decide (97 ≤ c) && decide (c ≤ 122)
def dig (c : Nat) : Bool := decide (48 ≤ c) && decide (c ≤ 57)
/-- a name: of one to twelve signs, no word of the grammar -/
def nameB (l : List Nat) : Bool := decide (1 ≤ l.length) && decide (l.length ≤ 12) && !(l == [108, 101, 116]) && !(l == [105, 110]) && (match l with | a :: r => low a && r.all (fun c => low c || dig c) | [] => false)
theorem nameB_lt {l : List Nat} (h : nameB l = true) : l.all (fun c => decide (c < 0x110000)) = true := by
  cases l with
  | nil => cases h
  | cons a r =>
    simp only [nameB, Bool.and_eq_true, low, dig, Bool.or_eq_true, decide_eq_true_eq, List.all_eq_true] at h
    simp only [List.all_eq_true, List.mem_cons, decide_eq_true_eq]
    rintro c (rfl | hc)
    · have := h.2.1; omega
    · have := h.2.2 c hc; omega
theorem nameB_len {l : List Nat} (h : nameB l = true) : l.length ≤ 1000000 := by
  simp only [nameB, Bool.and_eq_true, decide_eq_true_eq] at h
  have := h.1.1.1.2
  omega
def good : Tm → Bool
  | .av _ => true
  | .nm l => nameB l
  | .fn t => good t
  | .cl t u => good t && good u
theorem enc_gd : ∀ t : Tm, good t = true → gd (enc t) = true
  | .av _, _ => rfl
  | .nm l, h => by
    have := nameB_lt (l := l) (by simpa [good] using h)
    simp only [enc, gd, gds] at *
    simp [this]
  | .fn t, h => by
    have := enc_gd t h
    simp [enc, gd, gds, this]
  | .cl t u, h => by
    simp only [good, Bool.and_eq_true] at h
    have h1 := enc_gd t h.1
    have h2 := enc_gd u h.2
    simp [enc, gd, gds, h1, h2]
theorem sz_pos (t : Tm) : 1 ≤ sz t := by cases t <;> simp [sz]
theorem dp_pos (t : Tm) : 1 ≤ dp t := by cases t <;> simp [dp]
theorem enc_tup (t : Tm) : ∃ a ds, enc t = .tup (a :: ds) := by cases t <;> exact ⟨_, _, rfl⟩
/-- closed within a functions -/
def clo : Nat → Tm → Bool
  | a, .av n => decide (n < a)
  | _, .nm _ => true
  | a, .fn t => clo (a + 1) t
  | a, .cl t u => clo a t && clo a u
/-- what is built -/
def fi : Tm → Nat
  | .av _ => 0
  | .nm _ => 0
  | .fn t => fi t + 1
  | .cl t u => fi t + fi u + 1
theorem fi_sz : ∀ t, sz t ≤ 2 * fi t + 1
  | .av _ => by simp [sz]
  | .nm _ => by simp [sz]
  | .fn t => by have := fi_sz t; simp only [sz, fi]; omega
  | .cl t u => by have := fi_sz t; have := fi_sz u; simp only [sz, fi]; omega
theorem fi_dp : ∀ t, dp t ≤ fi t + 1
  | .av _ => by simp [dp]
  | .nm _ => by simp [dp]
  | .fn t => by have := fi_dp t; simp only [dp, fi]; omega
  | .cl t u => by have := fi_dp t; have := fi_dp u; simp only [dp, fi]; omega
theorem enc_pl : ∀ t : Tm, good t = true → pl (enc t) = true
  | .av _, _ => rfl
  | .nm l, h => by
    have := nameB_lt (l := l) (by simpa [good] using h)
    simp only [enc, pl, pls] at *
    simp [this]
  | .fn t, h => by
    have := enc_pl t h
    simp [enc, pl, pls, this]
  | .cl t u, h => by
    simp only [good, Bool.and_eq_true] at h
    have h1 := enc_pl t h.1
    have h2 := enc_pl u h.2
    simp [enc, pl, pls, h1, h2]
theorem enc_dd : ∀ t : Tm, dd (enc t) ≤ dp t
  | .av _ => by simp [enc, dd, dds, dp]
  | .nm _ => by simp [enc, dd, dds, dp]
  | .fn t => by have := enc_dd t; simp only [enc, dd, dds, dp]; omega
  | .cl t u => by have := enc_dd t; have := enc_dd u; simp only [enc, dd, dds, dp]; omega
def fns : Nat → Tm → Tm
  | 0, t => t
  | k + 1, t => fns k (.fn t)
def cls : Tm → List Tm → Tm
  | h, [] => h
  | h, a :: l => cls (.cl h a) l
def num : Nat → Tm → Tm
  | 0, t => t
  | k + 1, t => num k (.cl (.av 1) t)
def knB (u : Tm) : Bool := good u && clo 0 u && decide (dp u ≤ 9) && decide (sz u ≤ 20)
theorem knB_num : ∀ k, k < 4 → knB (.fn (.fn (num k (.av 0)))) = true := by decide
/-- the greatest body -/
def fm : Tm → Nat
  | .av _ => 0
  | .nm _ => 0
  | .fn t => sz t
  | .cl t u => max (fm t) (fm u)
theorem fm_sz : ∀ t, fm t ≤ sz t
  | .av _ => by simp [fm]
  | .nm _ => by simp [fm]
  | .fn t => by simp only [fm, sz]; omega
  | .cl t u => by have := fm_sz t; have := fm_sz u; simp only [fm, sz]; omega
/-- what is drawn: closed, of a size, of a depth, of small bodies -/
structure Tt (a b : Nat) (u : Tm) : Prop where
  g : good u = true
  c : clo 0 u = true
  d : dp u ≤ a
  z : sz u ≤ b
  f : fm u ≤ 2 * a + 2
theorem Tt.mono {a b a' b' : Nat} {u : Tm} (h : Tt a b u) (ha : a ≤ a') (hb : b ≤ b') : Tt a' b' u := ⟨h.g, h.c, Nat.le_trans h.d ha, Nat.le_trans h.z hb, by have := h.f; omega⟩
theorem Tt.of_kn {u : Tm} (h : knB u = true) : Tt 9 20 u := by
  simp only [knB, Bool.and_eq_true, decide_eq_true_eq] at h
  have := fm_sz u
  exact ⟨h.1.1.1, h.1.1.2, h.1.2, h.2, by omega⟩
theorem Tt.of_fi {u : Tm} {k : Nat} (g : good u = true) (c : clo 0 u = true) (f : fi u + 1 ≤ k) : Tt k (2 * k) u := by
  have h1 := fi_dp u
  have h2 := fi_sz u
  have h3 := fm_sz u
  exact ⟨g, c, by omega, by omega, by omega⟩
theorem Tt.cls {a b : Nat} : ∀ {l : List Tm} {h : Tm} {a' b' : Nat}, Tt a' b' h → a ≤ a' → (∀ u ∈ l, Tt a b u) → Tt (a' + l.length) (b' + l.length * (b + 1)) (cls h l)
  | [], h, a', b', th, _, _ => by simpa [Mini.cls] using th
  | u :: l, h, a', b', th, ha, hu => by
    have tu := hu u List.mem_cons_self
    have t1 : Tt (a' + 1) (b' + (b + 1)) (.cl h u) := by
      have h1 := th.d
      have h2 := tu.d
      have h3 := th.z
      have h4 := tu.z
      have h5 := th.f
      have h6 := tu.f
      exact ⟨by simp [good, th.g, tu.g], by simp [clo, th.c, tu.c], by simp only [dp]; omega, by simp only [sz]; omega, by simp only [fm]; omega⟩
    have := Tt.cls (l := l) t1 (by omega) fun v hv => hu v (List.mem_cons_of_mem _ hv)
    refine this.mono (by simp only [List.length_cons]; omega) ?_
    simp only [List.length_cons, Nat.add_mul, Nat.one_mul]
    omega
/-- what a comprehension of drawn terms makes -/
structure Li (t c p : Addr) (k : Nat) (P : Tm → Prop) (S0 : Sto) (ds : List D) (S : Sto) : Prop where
  tp : Tp t c S
  x : Sd t c S0 S
  l : ∃ us : List Tm, S p = some (.lst (us.map enc)) ∧ (∀ u ∈ us, P u) ∧ us.length + ds.length = k
theorem Li.push {t c p : Addr} {k : Nat} {P : Tm → Prop} {S0 S S' : Sto} {d : D} {ds : List D} {u : Tm} (h : Li t c p k P S0 (d :: ds) S) (h1 : p ≠ t) (h2 : p ≠ c) (hp : S0 p = none) (hk : k < 1000) (tp : Tp t c S') (x : Sd t c S S') (hu : P u) :
    ∃ acc, S' p = some (.lst acc) ∧ acc.length < sizeLine ∧ Li t c p k P S0 ds (S'.upd p (.lst (acc ++ [enc u]))) := by
  obtain ⟨us, e, ha, hl⟩ := h.l
  simp only [List.length_cons] at hl
  refine ⟨us.map enc, x _ _ h1 h2 e, of_eq_true (sz_lt (by rw [List.length_map]; omega)), tp.put h1 h2, (h.x.trans x).over hp, us ++ [u], by rw [Sto.upd_same]; simp, fun v hv => ?_, by simp only [List.length_append, List.length_cons, List.length_nil]; omega⟩
  rcases List.mem_append.mp hv with hv | hv
  · exact ha v hv
  · rw [List.mem_singleton.mp hv]; exact hu
/-- a term is no text -/
theorem eqW_enc_str {t : Tm} {l : List Nat} {neg : Bool} {S : Sto} {Q : QD} (hg : good t = true) (hl : l.all (fun c => decide (c < 0x110000)) = true) (q : Q (.bl (neg ^^ false)) S) : eqW (enc t) (.str l) neg S Q := by
  have e : deq (enc t) (.str l) = false := by cases t <;> rfl
  refine eqW_of (enc_gd t hg) (by simpa [gd] using hl) (Nat.le_trans (Nat.min_le_right _ _) (Nat.zero_le 620)) ?_
  rw [e]
  exact q
end Mini
end L2
/-! Mini, part U: the machine by name -/
namespace L2
namespace Mini
open PySem PySem.Spec PyProof.Rows
/-! ### the machine by name -/
structure Ms where
  h : Tm
  e : List Nat
  s : List Nat
  c : List (Tm × List Nat)
abbrev nts (l : List Nat) : D := .tup (l.map fun (n : Nat) => D.int (n : Int))
abbrev cel (x : Tm × List Nat) : D := .tup [.str [119, 97, 105, 116], enc x.1, nts x.2]
def encS (m : Ms) : D := .tup [.str [98, 121, 32, 110, 97, 109, 101], enc m.h, nts m.e, nts m.s, .tup (m.c.map cel)]
/-- the cell for a part: its number, the cells then -/
def cellFor (m : Ms) : Tm → Nat × List (Tm × List Nat)
  | .av n => (m.e.getD n 0, m.c)
  | t => (m.c.length, m.c ++ [(t, m.e)])
inductive Wd where | put | other
def step : Ms → Option (Wd × Ms)
  | ⟨.cl f a, e, s, c⟩ => some (.other, ⟨f, e, (cellFor ⟨.cl f a, e, s, c⟩ a).1 :: s, (cellFor ⟨.cl f a, e, s, c⟩ a).2⟩)
  | ⟨.fn t, e, x :: s, c⟩ => some (.put, ⟨t, x :: e, s, c⟩)
  | ⟨.av n, e, s, c⟩ => some (.other, ⟨(c.getD (e.getD n 0) (.av 0, [])).1, (c.getD (e.getD n 0) (.av 0, [])).2, s, c⟩)
  | _ => none
structure Wf (m : Ms) : Prop where
  h : clo m.e.length m.h = true
  g : good m.h = true
  e : ∀ n ∈ m.e, n < m.c.length
  s : ∀ n ∈ m.s, n < m.c.length
  c : ∀ x ∈ m.c, clo x.2.length x.1 = true ∧ good x.1 = true ∧ ∀ n ∈ x.2, n < m.c.length
/-- the object -/
abbrev sPut : D := .str [112, 117, 116]
abbrev sOth : D := .str [111, 116, 104, 101, 114]
abbrev sEnd : D := .str [101, 110, 100]
def wd : Wd → D
  | .put => sPut
  | .other => sOth
/-- ByName.state -/
theorem gds_nts : ∀ l : List Nat, gds (l.map fun (n : Nat) => D.int (n : Int)) = true
  | [] => rfl
  | a :: l => by simp [gds, gd, gds_nts l]
/-- no more than k of each -/
structure Bd (k : Nat) (m : Ms) : Prop where
  e : m.e.length ≤ k
  s : m.s.length ≤ k
  c : m.c.length ≤ k
  ce : ∀ x ∈ m.c, x.2.length ≤ k
theorem cellFor_bd {k : Nat} {m : Ms} {a : Tm} (b : Bd k m) : (cellFor m a).2.length ≤ k + 1 ∧ ∀ x ∈ (cellFor m a).2, x.2.length ≤ k + 1 := by
  have h1 : m.c.length ≤ k + 1 ∧ ∀ x ∈ m.c, x.2.length ≤ k + 1 := ⟨by have := b.c; omega, fun x hx => by have := b.ce x hx; omega⟩
  have h2 : ∀ t, (m.c ++ [(t, m.e)]).length ≤ k + 1 ∧ ∀ x ∈ (m.c ++ [(t, m.e)]), x.2.length ≤ k + 1 := fun t => ⟨by have := b.c; simp; omega, fun x hx => by
    rcases List.mem_append.mp hx with hx | hx
    · exact h1.2 x hx
    · rw [List.mem_singleton.mp hx]
      have := b.e
      dsimp only
      omega⟩
  cases a with
  | av n => exact h1
  | nm w => exact h2 _
  | fn t => exact h2 _
  | cl t u => exact h2 _
theorem cellFor_lt {m : Ms} {a : Tm} (w : Wf m) (hc : clo m.e.length a = true) (hg : good a = true) : (cellFor m a).1 < (cellFor m a).2.length ∧ m.c.length ≤ (cellFor m a).2.length ∧ ∀ x ∈ (cellFor m a).2, clo x.2.length x.1 = true ∧ good x.1 = true ∧ ∀ n ∈ x.2, n < (cellFor m a).2.length := by
  have h2 : ∀ t, clo m.e.length t = true → good t = true → m.c.length < (m.c ++ [(t, m.e)]).length ∧ m.c.length ≤ (m.c ++ [(t, m.e)]).length ∧ ∀ x ∈ m.c ++ [(t, m.e)], clo x.2.length x.1 = true ∧ good x.1 = true ∧ ∀ n ∈ x.2, n < (m.c ++ [(t, m.e)]).length := fun t hc hg => by
    have hl : (m.c ++ [(t, m.e)]).length = m.c.length + 1 := by simp
    rw [hl]
    refine ⟨by omega, by omega, fun x hx => ?_⟩
    rcases List.mem_append.mp hx with hx | hx
    · have := w.c x hx
      exact ⟨this.1, this.2.1, fun n hn => by have := this.2.2 n hn; omega⟩
    · rw [List.mem_singleton.mp hx]
      exact ⟨hc, hg, fun n hn => by have := w.e n hn; omega⟩
  cases a with
  | av n =>
    simp only [clo, decide_eq_true_eq] at hc
    refine ⟨?_, Nat.le_refl _, w.c⟩
    have := w.e _ (List.getElem_mem hc)
    simp only [cellFor, List.getD_eq_getElem?_getD, List.getElem?_eq_getElem hc, Option.getD_some]
    exact this
  | nm l => exact h2 _ hc hg
  | fn t => exact h2 _ hc hg
  | cl t u => exact h2 _ hc hg
theorem step_wf {m m' : Ms} {x : Wd} (w : Wf m) (h : step m = some (x, m')) : Wf m' := by
  obtain ⟨hh, e, s, c⟩ := m
  cases hh with
  | cl t u =>
    have h1 := w.h
    have h2 := w.g
    simp only [clo, good, Bool.and_eq_true] at h1 h2
    obtain ⟨a1, a2, a3⟩ := cellFor_lt w h1.2 h2.2
    cases h
    refine ⟨h1.1, h2.1, fun n hn => ?_, fun n hn => ?_, a3⟩
    · exact Nat.lt_of_lt_of_le (w.e n hn) a2
    · rcases List.mem_cons.mp hn with rfl | hn
      · exact a1
      · exact Nat.lt_of_lt_of_le (w.s n hn) a2
  | fn t =>
    cases s with
    | nil => cases h
    | cons y s =>
      cases h
      refine ⟨w.h, w.g, fun n hn => ?_, fun n hn => w.s n (List.mem_cons_of_mem _ hn), w.c⟩
      rcases List.mem_cons.mp hn with rfl | hn
      · exact w.s _ (List.mem_cons_self ..)
      · exact w.e n hn
  | nm l => cases h
  | av k =>
    have wh := w.h
    simp only [clo, decide_eq_true_eq] at wh
    have hx : e[k] < c.length := w.e _ (List.getElem_mem wh)
    have e1 : c.getD (e.getD k 0) (.av 0, []) = c[e[k]] := by simp only [List.getD_eq_getElem?_getD, List.getElem?_eq_getElem wh, List.getElem?_eq_getElem hx, Option.getD_some]
    simp only [step, e1] at h
    cases h
    have := w.c _ (List.getElem_mem hx)
    exact ⟨this.1, this.2.1, this.2.2, w.s, w.c⟩
theorem step_bd {k : Nat} {m m' : Ms} {x : Wd} (w : Wf m) (b : Bd k m) (h : step m = some (x, m')) : Bd (k + 1) m' := by
  obtain ⟨hh, e, s, c⟩ := m
  have be := b.e
  have bs := b.s
  have bc := b.c
  have bce := b.ce
  dsimp only at be bs bc bce
  cases hh with
  | cl t u =>
    obtain ⟨a1, a2⟩ := cellFor_bd (a := u) b
    cases h
    exact ⟨by dsimp only; omega, by simp only [List.length_cons]; omega, a1, a2⟩
  | fn t =>
    cases s with
    | nil => cases h
    | cons y s =>
      cases h
      simp only [List.length_cons] at bs
      exact ⟨by simp only [List.length_cons]; omega, by dsimp only; omega, by dsimp only; omega, fun x hx => by have := bce x hx; omega⟩
  | nm l => cases h
  | av k =>
    have wh := w.h
    simp only [clo, decide_eq_true_eq] at wh
    have hx : e[k] < c.length := w.e _ (List.getElem_mem wh)
    have e1 : c.getD (e.getD k 0) (.av 0, []) = c[e[k]] := by simp only [List.getD_eq_getElem?_getD, List.getElem?_eq_getElem wh, List.getElem?_eq_getElem hx, Option.getD_some]
    simp only [step, e1] at h
    cases h
    have := bce _ (List.getElem_mem hx)
    exact ⟨by dsimp only; omega, by dsimp only; omega, by dsimp only; omega, fun x hx => by have := bce x hx; omega⟩
/-- the state the law's step gives -/
def nxD (m : Ms) : D := match step m with
  | none => .non
  | some (_, m') => encS m'
/-- begun -/
def m0 (t : Tm) : Ms := ⟨t, [], [], []⟩
def wdN : Wd → Nat
  | .put => 1
  | .other => 0
/-- so many steps: the state, the steps, the puts -/
def runN : Nat → Ms → Nat → Nat → Ms × Nat × Nat
  | 0, m, s, p => (m, s, p)
  | k + 1, m, s, p => match step m with
    | none => (m, s, p)
    | some (w, m') => runN k m' (s + 1) (p + wdN w)
abbrev encR (r : Ms × Nat × Nat) : D := .tup [encS r.1, .int (r.2.1 : Int), .int (r.2.2 : Int)]
structure Dm (b : Nat) (m : Ms) : Prop where
  h : dp m.h ≤ b
  c : ∀ x ∈ m.c, dp x.1 ≤ b
theorem cellFor_dm {b : Nat} {m : Ms} {a : Tm} (h : ∀ x ∈ m.c, dp x.1 ≤ b) (ha : dp a ≤ b) : ∀ x ∈ (cellFor m a).2, dp x.1 ≤ b := by
  have h2 : ∀ t, dp t ≤ b → ∀ x ∈ m.c ++ [(t, m.e)], dp x.1 ≤ b := fun t ht x hx => by
    rcases List.mem_append.mp hx with hx | hx
    · exact h x hx
    · rw [List.mem_singleton.mp hx]; exact ht
  cases a with
  | av n => exact h
  | nm w => exact h2 _ ha
  | fn t => exact h2 _ ha
  | cl t u => exact h2 _ ha
theorem step_dm {b : Nat} {m m' : Ms} {x : Wd} (w : Wf m) (d : Dm b m) (h : step m = some (x, m')) : Dm b m' := by
  obtain ⟨hh, e, s, c⟩ := m
  have dh := d.h
  have dc := d.c
  cases hh with
  | cl t u =>
    simp only [dp] at dh
    cases h
    exact ⟨by dsimp only; omega, cellFor_dm dc (by omega)⟩
  | fn t =>
    simp only [dp] at dh
    cases s with
    | nil => cases h
    | cons y s => cases h; exact ⟨by dsimp only; omega, dc⟩
  | nm l => cases h
  | av k =>
    have wh := w.h
    simp only [clo, decide_eq_true_eq] at wh
    have hx : e[k] < c.length := w.e _ (List.getElem_mem wh)
    have e1 : c.getD (e.getD k 0) (.av 0, []) = c[e[k]] := by simp only [List.getD_eq_getElem?_getD, List.getElem?_eq_getElem wh, List.getElem?_eq_getElem hx, Option.getD_some]
    simp only [step, e1] at h
    cases h
    exact ⟨dc _ (List.getElem_mem hx), dc⟩
theorem pls_nts : ∀ l : List Nat, pls (l.map fun (n : Nat) => D.int (n : Int)) = true
  | [] => rfl
  | a :: l => by simp [pls, pl, pls_nts l]
theorem pl_nts {l : List Nat} (h : l.length ≤ 1000) : pl (nts l) = true := by simp [pl, pls_nts, h]
theorem dds_nts : ∀ l : List Nat, dds (l.map fun (n : Nat) => D.int (n : Int)) = 0
  | [] => rfl
  | a :: l => by simp [dds, dd, dds_nts l]
theorem pls_cel : ∀ l : List (Tm × List Nat), (∀ x ∈ l, good x.1 = true ∧ x.2.length ≤ 1000) → pls (l.map cel) = true
  | [], _ => rfl
  | a :: l, h => by
    have h1 := h a List.mem_cons_self
    have h2 := pls_cel l fun x hx => h x (List.mem_cons_of_mem _ hx)
    have h3 := enc_pl a.1 h1.1
    have h4 := pl_nts h1.2
    simp only [nts] at h4
    simp [pls, pl, h2, h3, pls_nts, h1.2]
theorem dds_cel {b : Nat} : ∀ l : List (Tm × List Nat), (∀ x ∈ l, dp x.1 ≤ b) → dds (l.map cel) ≤ b + 2
  | [], _ => by simp [dds]
  | a :: l, h => by
    have h1 := h a List.mem_cons_self
    have h2 := dds_cel l fun x hx => h x (List.mem_cons_of_mem _ hx)
    have h3 := enc_dd a.1
    simp only [List.map_cons, dds, dd, dds_nts]
    omega
theorem encS_pl {k : Nat} {m : Ms} (w : Wf m) (b : Bd k m) (hk : k ≤ 1000) : pl (encS m) = true := by
  have h1 := enc_pl _ w.g
  have h2 := pl_nts (l := m.e) (by have := b.e; omega)
  have h3 := pl_nts (l := m.s) (by have := b.s; omega)
  have h4 := pls_cel m.c fun x hx => ⟨(w.c x hx).2.1, by have := b.ce x hx; omega⟩
  have h5 : m.c.length ≤ 1000 := by have := b.c; omega
  simp only [nts, pl, Bool.and_eq_true, decide_eq_true_eq, List.length_map] at h2 h3
  simp only [encS, pl, pls, h1, h4, List.length_map]
  simp [h5, h2, h3]
theorem encS_dd {b : Nat} {m : Ms} (d : Dm b m) : dd (encS m) ≤ b + 4 := by
  have h1 := enc_dd m.h
  have h2 := d.h
  have h3 := dds_cel m.c d.c
  simp only [encS, dd, dds, dds_nts]
  omega
theorem encS_tup (m : Ms) : ∃ a ds, encS m = .tup (a :: ds) := ⟨_, _, rfl⟩
/-- which of the steps are puts -/
theorem step_word {m m' : Ms} {x : Wd} (h : step m = some (x, m')) : ∃ s r, enc m.h = .tup (.str s :: r) ∧ (s == [102, 117, 110]) = (wdN x == 1) := by
  obtain ⟨hh, e, s, c⟩ := m
  cases hh with
  | cl t u => cases h; exact ⟨_, _, rfl, rfl⟩
  | fn t =>
    cases s with
    | nil => cases h
    | cons y s => cases h; exact ⟨_, _, rfl, rfl⟩
  | nm l => cases h
  | av k => cases h; exact ⟨_, _, rfl, rfl⟩
theorem runN_ok : ∀ (k : Nat) (m : Ms) (s p : Nat), Wf m → Bd s m → Dm 24 m → Wf (runN k m s p).1 ∧ Bd (s + k) (runN k m s p).1 ∧ Dm 24 (runN k m s p).1
  | 0, m, s, p, w, b, d => ⟨w, b, d⟩
  | k + 1, m, s, p, w, b, d => by
    simp only [runN]
    cases e : step m with
    | none => exact ⟨w, ⟨by have := b.e; dsimp only; omega, by have := b.s; dsimp only; omega, by have := b.c; dsimp only; omega, fun x hx => by have := b.ce x hx; omega⟩, d⟩
    | some r =>
      obtain ⟨wd, m'⟩ := r
      have := runN_ok k m' (s + 1) (p + wdN wd) (step_wf w e) (step_bd w b e) (step_dm w d e)
      rw [show s + (k + 1) = s + 1 + k by omega]
      exact this
end Mini
end L2
/-! Mini, part W: cells, and the terms that they stand for -/
namespace L2
namespace Mini
open PySem PySem.Spec PyProof.Rows
/-- what a cell holds: a part that waits, a function, something stuck; or a term that is known -/
inductive Cx where | wt (t : Tm) (e : List Nat) | fc (t : Tm) (e : List Nat) | sk (l : List Nat) (a : List Nat) | ct (t : Tm)
abbrev Ctx := Nat → Option Cx
def Ctx.set (c : Ctx) (n : Nat) (x : Cx) : Ctx := fun m => if m = n then some x else c m
def Ctx.cut (c : Ctx) (n : Nat) : Ctx := fun m => if m = n then none else c m
theorem Ctx.set_same {c : Ctx} {n : Nat} {x : Cx} : c.set n x n = some x := if_pos rfl
theorem Ctx.set_ne {c : Ctx} {n m : Nat} {x : Cx} (h : m ≠ n) : c.set n x m = c m := if_neg h
theorem Ctx.cut_same {c : Ctx} {n : Nat} : c.cut n n = none := if_pos rfl
theorem Ctx.cut_ne {c : Ctx} {n m : Nat} (h : m ≠ n) : c.cut n m = c m := if_neg h
/-- a part with terms put in for its surroundings -/
def fill (g : Nat → Option Tm) : Tm → List Nat → Nat → Option Tm
  | .av i, e, d => if i < d then some (.av i) else match e[i - d]? with | some n => g n | none => none
  | .nm l, _, _ => some (.nm l)
  | .fn t, e, d => (fill g t e (d + 1)).map .fn
  | .cl t u, e, d => match fill g t e d, fill g u e d with | some a, some b => some (.cl a b) | _, _ => none
/-- a head called with cells -/
def argsT (g : Nat → Option Tm) : Tm → List Nat → Option Tm
  | h, [] => some h
  | h, n :: l => match g n with | some u => argsT g (.cl h u) l | none => none
/-- the term of a cell -/
def un : Nat → Ctx → Nat → Option Tm
  | 0, _, _ => none
  | k + 1, c, n => match c n with
    | none => none
    | some (.ct t) => some t
    | some (.wt t e) => fill (un k c) t e 0
    | some (.fc t e) => fill (un k c) (.fn t) e 0
    | some (.sk l a) => argsT (un k c) (.nm l) a
theorem fill_mono {g h : Nat → Option Tm} (gh : ∀ n t, g n = some t → h n = some t) : ∀ (t : Tm) (e : List Nat) (d : Nat) (u : Tm), fill g t e d = some u → fill h t e d = some u
  | .av i, e, d, u, q => by
    unfold fill at q ⊢
    split
    · rename_i hd; rw [if_pos hd] at q; exact q
    · rename_i hd
      rw [if_neg hd] at q
      split at q
      · exact gh _ _ q
      · cases q
  | .nm l, _, _, u, q => q
  | .fn t, e, d, u, q => by
    unfold fill at q ⊢
    cases a : fill g t e (d + 1) with
    | none => rw [a] at q; cases q
    | some x => rw [a] at q; rw [fill_mono gh t e (d + 1) x a]; exact q
  | .cl t v, e, d, u, q => by
    unfold fill at q ⊢
    cases a : fill g t e d with
    | none => rw [a] at q; cases q
    | some x =>
      cases b : fill g v e d with
      | none => rw [a, b] at q; cases q
      | some y =>
        rw [a, b] at q
        rw [fill_mono gh t e d x a, fill_mono gh v e d y b]
        exact q
theorem argsT_mono {g h : Nat → Option Tm} (gh : ∀ n t, g n = some t → h n = some t) : ∀ (a : List Nat) (t u : Tm), argsT g t a = some u → argsT h t a = some u
  | [], t, u, q => q
  | n :: a, t, u, q => by
    unfold argsT at q ⊢
    cases x : g n with
    | none => rw [x] at q; cases q
    | some v => rw [x] at q; rw [gh n v x]; exact argsT_mono gh a _ u q
theorem un_step {k : Nat} {c c' : Ctx} (g : ∀ n t, un k c n = some t → un (k + 1) c' n = some t) (hc : ∀ n x, c n = some x → c' n = some x) : ∀ n t, un (k + 1) c n = some t → un (k + 2) c' n = some t := fun n t h => by
  unfold un at h ⊢
  cases e : c n with
  | none => rw [e] at h; cases h
  | some x =>
    rw [e] at h
    rw [hc n x e]
    cases x with
    | ct v => exact h
    | wt v e => exact fill_mono g _ _ _ _ h
    | fc v e => exact fill_mono g _ _ _ _ h
    | sk l a => exact argsT_mono g _ _ _ h
theorem un_succ : ∀ (k : Nat) (c : Ctx) (n : Nat) (t : Tm), un k c n = some t → un (k + 1) c n = some t
  | 0, _, _, _, h => by cases h
  | k + 1, c, n, t, h => un_step (fun n t h => un_succ k c n t h) (fun _ _ h => h) n t h
theorem un_le {j k : Nat} (h : j ≤ k) {c : Ctx} {n : Nat} {t : Tm} (e : un j c n = some t) : un k c n = some t := by
  induction h with
  | refl => exact e
  | step _ ih => exact un_succ _ _ _ _ ih
theorem un_mono {c c' : Ctx} (hc : ∀ n x, c n = some x → c' n = some x) : ∀ (k : Nat) (n : Nat) (t : Tm), un k c n = some t → un k c' n = some t
  | 0, _, _, h => by cases h
  | k + 1, n, t, h => by
    have g := un_mono hc k
    unfold un at h ⊢
    cases e : c n with
    | none => rw [e] at h; cases h
    | some x =>
      rw [e] at h
      rw [hc n x e]
      cases x with
      | ct v => exact h
      | wt v e => exact fill_mono g _ _ _ _ h
      | fc v e => exact fill_mono g _ _ _ _ h
      | sk l a => exact argsT_mono g _ _ _ h
theorem un_det {j k : Nat} {c : Ctx} {n : Nat} {t u : Tm} (h1 : un j c n = some t) (h2 : un k c n = some u) : t = u := by
  have a := un_le (Nat.le_max_left j k) h1
  have b := un_le (Nat.le_max_right j k) h2
  rw [a] at b
  cases b
  rfl
/-- a cell that is known by its term -/
theorem un_know {c : Ctx} {n : Nat} {f : Tm} {K : Nat} (hf : un K c n = some f) : ∀ (k m : Nat) (t : Tm), un k c m = some t → un k (c.set n (.ct f)) m = some t
  | 0, _, _, h => by cases h
  | k + 1, m, t, h => by
    have g := un_know hf k
    by_cases e : m = n
    · subst e
      have := un_det h hf
      subst this
      unfold un
      rw [Ctx.set_same]
    · unfold un at h ⊢
      rw [Ctx.set_ne e]
      cases q : c m with
      | none => rw [q] at h; cases h
      | some x =>
        rw [q] at h
        cases x with
        | ct v => exact h
        | wt v e => exact fill_mono g _ _ _ _ h
        | fc v e => exact fill_mono g _ _ _ _ h
        | sk l a => exact argsT_mono g _ _ _ h
/-- without a cell that is not told so soon -/
theorem un_cut {c : Ctx} {n : Nat} : ∀ (k : Nat), un k c n = none → ∀ m t, un k c m = some t → un k (c.cut n) m = some t
  | 0, _, _, _, h => by cases h
  | k + 1, hn, m, t, h => by
    have hk : un k c n = none := by
      cases e : un k c n with
      | none => rfl
      | some t => rw [un_succ k c n t e] at hn; cases hn
    have g := un_cut k hk
    by_cases e : m = n
    · subst e; rw [hn] at h; cases h
    · unfold un at h ⊢
      rw [Ctx.cut_ne e]
      cases q : c m with
      | none => rw [q] at h; cases h
      | some x =>
        rw [q] at h
        cases x with
        | ct v => exact h
        | wt v e => exact fill_mono g _ _ _ _ h
        | fc v e => exact fill_mono g _ _ _ _ h
        | sk l a => exact argsT_mono g _ _ _ h
/-- the least number of turns that tell a cell -/
theorem un_least {c : Ctx} {n : Nat} {t : Tm} : ∀ k, un k c n = some t → ∃ j, un (j + 1) c n = some t ∧ un j c n = none ∧ j < k
  | 0, h => by cases h
  | k + 1, h => by
    cases e : un k c n with
    | none => exact ⟨k, h, e, Nat.lt_succ_self k⟩
    | some u =>
      have : u = t := un_det e h
      subst this
      obtain ⟨j, h1, h2, h3⟩ := un_least k e
      exact ⟨j, h1, h2, Nat.lt_succ_of_lt h3⟩
/-- what a cell's own text needs, told without that cell -/
theorem un_open {c : Ctx} {n : Nat} {t : Tm} {k : Nat} (h : un k c n = some t) : ∃ j, (match c n with
    | none => none
    | some (.ct t) => some t
    | some (.wt t e) => fill (un j (c.cut n)) t e 0
    | some (.fc t e) => fill (un j (c.cut n)) (.fn t) e 0
    | some (.sk l a) => argsT (un j (c.cut n)) (.nm l) a) = some t := by
  obtain ⟨j, h1, h2, _⟩ := un_least k h
  refine ⟨j, ?_⟩
  have g := un_cut j h2
  unfold un at h1
  cases q : c n with
  | none => rw [q] at h1; cases h1
  | some x =>
    rw [q] at h1
    cases x with
    | ct v => exact h1
    | wt v e => exact fill_mono g _ _ _ _ h1
    | fc v e => exact fill_mono g _ _ _ _ h1
    | sk l a => exact argsT_mono g _ _ _ h1
/-- as many turns as there are cells do -/
theorem un_bound : ∀ (N : Nat) (D : List Nat) (c : Ctx), D.length ≤ N → (∀ n, c n ≠ none → n ∈ D) → ∀ k n t, un k c n = some t → un N c n = some t
  | 0, D, c, hD, hc, k, n, t, h => by
    have : c n ≠ none := fun e => by
      cases k with
      | zero => cases h
      | succ k => unfold un at h; rw [e] at h; cases h
    have := hc n this
    rw [List.length_eq_zero_iff.mp (Nat.le_zero.mp hD)] at this
    cases this
  | N + 1, D, c, hD, hc, k, n, t, h => by
    have hn : c n ≠ none := fun e => by
      cases k with
      | zero => cases h
      | succ k => unfold un at h; rw [e] at h; cases h
    have hm := hc n hn
    have ih : ∀ j m u, un j (c.cut n) m = some u → un N c m = some u := fun j m u hu =>
      un_mono (c := c.cut n) (fun m x e => by
        by_cases q : m = n
        · subst q; rw [Ctx.cut_same] at e; cases e
        · rw [Ctx.cut_ne q] at e; exact e) N m u
      (un_bound N (D.erase n) (c.cut n) (by rw [List.length_erase_of_mem hm]; omega) (fun m h => by
        by_cases q : m = n
        · subst q; exact absurd Ctx.cut_same h
        · rw [Ctx.cut_ne q] at h
          exact (List.mem_erase_of_ne q).mpr (hc m h)) j m u hu)
    obtain ⟨j, h1⟩ := un_open h
    unfold un
    cases q : c n with
    | none => rw [q] at h1; cases h1
    | some x =>
      rw [q] at h1
      cases x with
      | ct v => exact h1
      | wt v e => exact fill_mono (ih j) _ _ _ _ h1
      | fc v e => exact fill_mono (ih j) _ _ _ _ h1
      | sk l a => exact argsT_mono (ih j) _ _ _ h1
/-! ### free places -/
def free : Tm → Nat → Nat → Bool
  | .av j, d, i => decide (j = i + d)
  | .nm _, _, _ => false
  | .fn t, d, i => free t (d + 1) i
  | .cl t u, d, i => free t d i || free u d i
theorem free_clo {i : Nat} : ∀ {t : Tm} {d n : Nat}, clo (d + n) t = true → free t d i = true → i < n
  | .av j, d, n, h, f => by simp only [clo, free, decide_eq_true_eq] at h f; omega
  | .nm _, _, _, _, f => by cases f
  | .fn t, d, n, h, f => by
    simp only [clo, free] at h f
    exact free_clo (t := t) (d := d + 1) (by rw [show d + 1 + n = d + n + 1 by omega]; exact h) f
  | .cl t u, d, n, h, f => by
    simp only [clo, Bool.and_eq_true] at h
    simp only [free, Bool.or_eq_true] at f
    rcases f with f | f
    · exact free_clo h.1 f
    · exact free_clo h.2 f
/-- told where all free places are -/
theorem fill_some {g : Nat → Option Tm} {e : List Nat} : ∀ (t : Tm) (d : Nat), (∀ i, free t d i = true → ∃ n u, e[i]? = some n ∧ g n = some u) → ∃ u, fill g t e d = some u
  | .av j, d, h => by
    unfold fill
    by_cases q : j < d
    · exact ⟨_, if_pos q⟩
    · rw [if_neg q]
      obtain ⟨n, u, h1, h2⟩ := h (j - d) (by simp only [free, decide_eq_true_eq]; omega)
      rw [h1]
      exact ⟨u, h2⟩
  | .nm l, d, h => ⟨_, rfl⟩
  | .fn t, d, h => by
    obtain ⟨u, q⟩ := fill_some t (d + 1) h
    exact ⟨.fn u, by unfold fill; rw [q]; rfl⟩
  | .cl t v, d, h => by
    obtain ⟨a, q1⟩ := fill_some t d fun i f => h i (by simp [free, f])
    obtain ⟨b, q2⟩ := fill_some v d fun i f => h i (by simp [free, f])
    exact ⟨.cl a b, by unfold fill; rw [q1, q2]⟩
theorem fill_free {g : Nat → Option Tm} {e : List Nat} : ∀ {t : Tm} {d : Nat} {u : Tm}, fill g t e d = some u → ∀ i, free t d i = true → ∃ n v, e[i]? = some n ∧ g n = some v
  | .av j, d, u, q, i, f => by
    simp only [free, decide_eq_true_eq] at f
    unfold fill at q
    rw [if_neg (by omega), show j - d = i by omega] at q
    split at q
    · rename_i n hn; exact ⟨n, u, hn, q⟩
    · cases q
  | .nm l, d, u, q, i, f => by cases f
  | .fn t, d, u, q, i, f => by
    unfold fill at q
    cases a : fill g t e (d + 1) with
    | none => rw [a] at q; cases q
    | some x => exact fill_free a i f
  | .cl t v, d, u, q, i, f => by
    unfold fill at q
    cases a : fill g t e d with
    | none => rw [a] at q; cases q
    | some x =>
      cases b : fill g v e d with
      | none => rw [a, b] at q; cases q
      | some y =>
        simp only [free, Bool.or_eq_true] at f
        rcases f with f | f
        · exact fill_free a i f
        · exact fill_free b i f
/-- only the free places count -/
theorem fill_congr {g h : Nat → Option Tm} {e : List Nat} : ∀ (t : Tm) (d : Nat), (∀ i n, free t d i = true → e[i]? = some n → g n = h n) → fill g t e d = fill h t e d
  | .av j, d, q => by
    unfold fill
    by_cases hd : j < d
    · rw [if_pos hd, if_pos hd]
    · rw [if_neg hd, if_neg hd]
      cases a : e[j - d]? with
      | none => rfl
      | some n => exact q (j - d) n (by simp only [free, decide_eq_true_eq]; omega) a
  | .nm l, d, q => rfl
  | .fn t, d, q => by unfold fill; rw [fill_congr t (d + 1) q]
  | .cl t v, d, q => by
    unfold fill
    rw [fill_congr t d fun i n f => q i n (by simp [free, f]), fill_congr v d fun i n f => q i n (by simp [free, f])]
/-- names are good, places are none: what is told is closed and good -/
theorem fill_good {g : Nat → Option Tm} {e : List Nat} (hg : ∀ n u, g n = some u → good u = true) : ∀ {t : Tm} {d : Nat} {u : Tm}, good t = true → fill g t e d = some u → good u = true
  | .av j, d, u, h, q => by
    unfold fill at q
    split at q
    · cases q; rfl
    · split at q
      · exact hg _ _ q
      · cases q
  | .nm l, d, u, h, q => by cases q; exact h
  | .fn t, d, u, h, q => by
    unfold fill at q
    cases a : fill g t e (d + 1) with
    | none => rw [a] at q; cases q
    | some x =>
      rw [a] at q
      cases q
      have z := fill_good hg (t := t) h a
      exact z
  | .cl t v, d, u, h, q => by
    simp only [good, Bool.and_eq_true] at h
    unfold fill at q
    cases a : fill g t e d with
    | none => rw [a] at q; cases q
    | some x =>
      cases b : fill g v e d with
      | none => rw [a, b] at q; cases q
      | some y =>
        rw [a, b] at q
        cases q
        simp [good, fill_good hg (t := t) h.1 a, fill_good hg (t := v) h.2 b]
theorem argsT_good {g : Nat → Option Tm} (hg : ∀ n u, g n = some u → good u = true) : ∀ {a : List Nat} {t u : Tm}, good t = true → argsT g t a = some u → good u = true
  | [], t, u, h, q => by cases q; exact h
  | n :: a, t, u, h, q => by
    unfold argsT at q
    cases x : g n with
    | none => rw [x] at q; cases q
    | some v => rw [x] at q; exact argsT_good hg (a := a) (by simp [good, h, hg n v x]) q
/-- good cells -/
def gx : Cx → Bool
  | .wt t _ => good t
  | .fc t _ => good t
  | .sk l _ => nameB l
  | .ct t => good t
theorem un_good {c : Ctx} (hc : ∀ n x, c n = some x → gx x = true) : ∀ (k n : Nat) (t : Tm), un k c n = some t → good t = true
  | 0, _, _, h => by cases h
  | k + 1, n, t, h => by
    have g := un_good hc k
    unfold un at h
    cases e : c n with
    | none => rw [e] at h; cases h
    | some x =>
      rw [e] at h
      have hx := hc n x e
      cases x with
      | ct v => cases h; exact hx
      | wt v e => exact fill_good g hx h
      | fc v e => exact fill_good g (t := .fn v) hx h
      | sk l a => exact argsT_good g (t := .nm l) hx h
end Mini
end L2
/-! Mini, part X: states by need -/
namespace L2
namespace Mini
open PySem PySem.Spec PyProof.Rows
abbrev sWt : D := .str [119, 97, 105, 116]
abbrev sSk : D := .str [115, 116, 117, 99, 107]
abbrev sTm : D := .str [116, 101, 114, 109]
abbrev sWr : D := .str [119, 114, 105, 116, 101]
/-- a cell as a value; what is known is as what waits without surroundings -/
def cxD : Cx → D
  | .wt t e => .tup [sWt, enc t, nts e]
  | .fc t e => .tup [sFn, enc t, nts e]
  | .sk l a => .tup [sSk, .tup [sNm, .str l], nts a]
  | .ct t => .tup [sWt, enc t, .tup []]
/-- a term with its size and depth -/
def kD (t : Tm) : D := .tup [enc t, .int (sz t : Int), .int (dp t : Int)]
/-- the free places, ascending -/
def fpl (t : Tm) (B : Nat) : List Nat := (List.range B).filter (free t 0)
theorem mem_fpl {t : Tm} {B i : Nat} (hc : clo B t = true) : i ∈ fpl t B ↔ free t 0 i = true := by
  unfold fpl
  rw [List.mem_filter, List.mem_range]
  exact ⟨fun h => h.2, fun h => ⟨free_clo (d := 0) (by rw [Nat.zero_add]; exact hc) h, h⟩⟩
theorem fpl_nodup (t : Tm) (B : Nat) : (fpl t B).Nodup := List.nodup_range.filter _
theorem fpl_len (t : Tm) (B : Nat) : (fpl t B).length ≤ B := Nat.le_trans (List.length_filter_le _ _) (by rw [List.length_range]; exact Nat.le_refl _)
/-- whatever sorting gives -/
theorem sorted_fpl {t : Tm} {B : Nat} {ks : List Nat} {ys : List Int} (hc : clo B t = true) (hn : ks.Nodup) (hk : ∀ i, i ∈ ks ↔ free t 0 i = true) (hp : ys.Perm (ks.map fun (n : Nat) => (n : Int))) (hs : ys.Pairwise (· ≤ ·)) : ys = (fpl t B).map fun (n : Nat) => (n : Int) := by
  have p2 : ks.Perm (fpl t B) := (List.perm_ext_iff_of_nodup hn (fpl_nodup t B)).mpr fun i => by rw [hk, mem_fpl hc]
  refine List.Perm.eq_of_pairwise (le := fun a b => a ≤ b) (fun a b _ _ h1 h2 => Int.le_antisymm h1 h2) hs ?_ (hp.trans (p2.map _))
  rw [List.pairwise_map]
  refine List.Pairwise.imp (R := fun a b => a < b) (fun h => by omega) ?_
  exact List.Pairwise.filter _ List.pairwise_lt_range
/-- the cells that a cell needs, as it tells them -/
def ndl : Cx → List Nat
  | .wt t e => (fpl t e.length).filterMap fun i => e[i]?
  | .fc t e => (fpl (.fn t) e.length).filterMap fun i => e[i]?
  | .sk _ a => a
  | .ct _ => []
/-- the term of a cell, of what is told of its needs -/
def mk1 (g : Nat → Option Tm) : Cx → Option Tm
  | .wt t e => fill g t e 0
  | .fc t e => fill g (.fn t) e 0
  | .sk l a => argsT g (.nm l) a
  | .ct t => some t
theorem un_mk1 {k : Nat} {c : Ctx} {n : Nat} : un (k + 1) c n = (c n).bind (mk1 (un k c)) := by
  show (match c n with | none => _ | some (.ct t) => _ | some (.wt t e) => _ | some (.fc t e) => _ | some (.sk l a) => _) = _
  cases c n with
  | none => rfl
  | some x => cases x <;> rfl
theorem mk1_mono {g h : Nat → Option Tm} (gh : ∀ n t, g n = some t → h n = some t) {x : Cx} {t : Tm} (q : mk1 g x = some t) : mk1 h x = some t := by
  cases x with
  | wt v e => exact fill_mono gh _ _ _ _ q
  | fc v e => exact fill_mono gh _ _ _ _ q
  | sk l a => exact argsT_mono gh _ _ _ q
  | ct v => exact q
/-- all places of the cell are its surroundings' -/
def cw : Cx → Bool
  | .wt t e => clo e.length t
  | .fc t e => clo e.length (.fn t)
  | _ => true
theorem mem_ndlT {t : Tm} {e : List Nat} (hc : clo e.length t = true) {m : Nat} : m ∈ (fpl t e.length).filterMap (fun i => e[i]?) ↔ ∃ i, free t 0 i = true ∧ e[i]? = some m := by
  rw [List.mem_filterMap]
  exact ⟨fun ⟨i, h1, h2⟩ => ⟨i, (mem_fpl hc).mp h1, h2⟩, fun ⟨i, h1, h2⟩ => ⟨i, (mem_fpl hc).mpr h1, h2⟩⟩
theorem argsT_some {g : Nat → Option Tm} : ∀ (a : List Nat) (h : Tm), (∀ m ∈ a, ∃ u, g m = some u) → ∃ u, argsT g h a = some u
  | [], h, _ => ⟨h, rfl⟩
  | n :: a, h, q => by
    obtain ⟨u, hu⟩ := q n List.mem_cons_self
    obtain ⟨w, hw⟩ := argsT_some a (.cl h u) fun m hm => q m (List.mem_cons_of_mem _ hm)
    exact ⟨w, by unfold argsT; rw [hu]; exact hw⟩
theorem fillT_some {g : Nat → Option Tm} {t : Tm} {e : List Nat} (hc : clo e.length t = true) (h : ∀ m ∈ (fpl t e.length).filterMap (fun i => e[i]?), ∃ u, g m = some u) : ∃ u, fill g t e 0 = some u := by
  refine fill_some t 0 fun i hi => ?_
  have hl := free_clo (d := 0) (n := e.length) (by rw [Nat.zero_add]; exact hc) hi
  obtain ⟨u, hu⟩ := h e[i] ((mem_ndlT hc).mpr ⟨i, hi, List.getElem?_eq_getElem hl⟩)
  exact ⟨e[i], u, List.getElem?_eq_getElem hl, hu⟩
theorem mk1_some {g : Nat → Option Tm} {x : Cx} (hc : cw x = true) (h : ∀ m ∈ ndl x, ∃ u, g m = some u) : ∃ u, mk1 g x = some u := by
  cases x with
  | wt v e => exact fillT_some hc h
  | fc v e => exact fillT_some (t := .fn v) hc h
  | sk l a => exact argsT_some a _ h
  | ct v => exact ⟨v, rfl⟩
theorem argsT_all {g : Nat → Option Tm} : ∀ {a : List Nat} {h u : Tm}, argsT g h a = some u → ∀ m ∈ a, ∃ v, g m = some v
  | n :: a, h, u, q, m, hm => by
    unfold argsT at q
    cases x : g n with
    | none => rw [x] at q; cases q
    | some v =>
      rw [x] at q
      rcases List.mem_cons.mp hm with rfl | hm
      · exact ⟨v, x⟩
      · exact argsT_all q m hm
theorem fillT_all {g : Nat → Option Tm} {t u : Tm} {e : List Nat} (hc : clo e.length t = true) (q : fill g t e 0 = some u) : ∀ m ∈ (fpl t e.length).filterMap (fun i => e[i]?), ∃ v, g m = some v := fun m hm => by
  obtain ⟨i, h1, h2⟩ := (mem_ndlT hc).mp hm
  obtain ⟨n, v, h3, h4⟩ := fill_free q i h1
  rw [h2] at h3
  cases h3
  exact ⟨v, h4⟩
theorem mk1_all {g : Nat → Option Tm} {x : Cx} {u : Tm} (hc : cw x = true) (q : mk1 g x = some u) : ∀ m ∈ ndl x, ∃ v, g m = some v := by
  cases x with
  | wt v e => exact fillT_all hc q
  | fc v e => exact fillT_all (t := .fn v) hc q
  | sk l a => exact argsT_all q
  | ct v => exact fun m hm => by cases hm
/-! ### told at all -/
inductive Ac (c : Ctx) : Nat → Prop
  | mk {n : Nat} {x : Cx} : c n = some x → (∀ m, m ∈ ndl x → Ac c m) → Ac c n
theorem Ac.inv {c : Ctx} {n : Nat} (h : Ac c n) : ∃ x, c n = some x ∧ ∀ m, m ∈ ndl x → Ac c m := by cases h with | mk e q => exact ⟨_, e, q⟩
theorem Ac.need {c : Ctx} {n : Nat} {x : Cx} (h : Ac c n) (e : c n = some x) : ∀ m, m ∈ ndl x → Ac c m := by
  obtain ⟨y, ey, q⟩ := h.inv
  rw [e] at ey
  cases ey
  exact q
def Sb (c c' : Ctx) : Prop := ∀ n x, c n = some x → ∃ y, c' n = some y ∧ ∀ m, m ∈ ndl y → m ∈ ndl x
theorem Ac.sub {c c' : Ctx} {n : Nat} (s : Sb c c') (h : Ac c n) : Ac c' n := by
  induction h with
  | mk e q ih =>
    obtain ⟨y, ey, hy⟩ := s _ _ e
    exact .mk ey fun m hm => ih m (hy m hm)
theorem Sb.refl (c : Ctx) : Sb c c := fun n x e => ⟨x, e, fun _ h => h⟩
theorem Sb.new {c : Ctx} {n : Nat} {x : Cx} (h : c n = none) : Sb c (c.set n x) := fun m y e => by
  have ne : m ≠ n := fun q => by rw [q, h] at e; cases e
  exact ⟨y, by rw [Ctx.set_ne ne]; exact e, fun _ h => h⟩
theorem Sb.know {c : Ctx} {n : Nat} {t : Tm} : Sb c (c.set n (.ct t)) := fun m y e => by
  by_cases ne : m = n
  · subst ne; exact ⟨_, Ctx.set_same, fun _ h => by cases h⟩
  · exact ⟨y, by rw [Ctx.set_ne ne]; exact e, fun _ h => h⟩
theorem Sb.set {c c' : Ctx} {n : Nat} {t t' : Tm} (s : Sb c c') : Sb (c.set n (.ct t)) (c'.set n (.ct t')) := fun m y e => by
  by_cases ne : m = n
  · subst ne; exact ⟨_, Ctx.set_same, fun _ h => by cases h⟩
  · rw [Ctx.set_ne ne] at e
    obtain ⟨z, h1, h2⟩ := s m y e
    exact ⟨z, by rw [Ctx.set_ne ne]; exact h1, h2⟩
theorem Ac.plug {c : Ctx} {n m : Nat} {x : Cx} {t : Tm} (h0 : c n = none) (hx : ∀ m, m ∈ ndl x → Ac c m) (h : Ac (c.set n (.ct t)) m) : Ac (c.set n x) m := by
  induction h with
  | @mk m y e q ih =>
    by_cases ne : m = n
    · subst ne
      exact .mk Ctx.set_same fun z hz => (hx z hz).sub (Sb.new h0)
    · rw [Ctx.set_ne ne] at e
      exact .mk (by rw [Ctx.set_ne ne]; exact e) ih
/-- no cell needs itself -/
inductive Rc (c : Ctx) : Nat → Nat → Prop
  | one {n m : Nat} {x : Cx} : c n = some x → m ∈ ndl x → Rc c n m
  | more {n m k : Nat} {x : Cx} : c n = some x → m ∈ ndl x → Rc c m k → Rc c n k
theorem Rc.snoc {c : Ctx} {n m k : Nat} {x : Cx} (h : Rc c n m) (e : c m = some x) (hk : k ∈ ndl x) : Rc c n k := by
  induction h with
  | one e1 h1 => exact .more e1 h1 (.one e hk)
  | more e1 h1 _ ih => exact .more e1 h1 (ih e)
theorem Ac.noloop {c : Ctx} {n : Nat} (h : Ac c n) : ¬ Rc c n n := by
  induction h with
  | @mk n x e q ih =>
    intro r
    cases r with
    | one e1 h1 =>
      rw [e] at e1
      cases e1
      exact ih n h1 (.one e h1)
    | @more _ m _ _ e1 h1 r =>
      rw [e] at e1
      cases e1
      exact ih m h1 (r.snoc e h1)
theorem Ac.cut_or {c : Ctx} {n m : Nat} (h : Ac c m) : Ac (c.cut n) m ∨ m = n ∨ Rc c m n := by
  induction h with
  | @mk m x e q ih =>
    by_cases ne : m = n
    · exact .inr (.inl ne)
    · by_cases a : ∀ k, k ∈ ndl x → Ac (c.cut n) k
      · exact .inl (.mk (by rw [Ctx.cut_ne ne]; exact e) a)
      · obtain ⟨k, hk⟩ := Classical.not_forall.mp a
        obtain ⟨h1, h2⟩ := Classical.not_imp.mp hk
        rcases ih k h1 with h | rfl | h
        · exact absurd h h2
        · exact .inr (.inr (.one e h1))
        · exact .inr (.inr (.more e h1 h))
theorem Ac.cut {c : Ctx} {n m : Nat} {x : Cx} (h : Ac c n) (e : c n = some x) (hm : m ∈ ndl x) : Ac (c.cut n) m := by
  rcases (h.need e m hm).cut_or (n := n) with q | rfl | q
  · exact q
  · exact absurd (.one e hm) h.noloop
  · exact absurd (.more e hm q) h.noloop
theorem Ac.un {c : Ctx} {N : Nat} {L : List Nat} (hL : L.length ≤ N) (hc : ∀ n, c n ≠ none → n ∈ L) (w : ∀ n x, c n = some x → cw x = true) {n : Nat} (h : Ac c n) : ∃ t, Mini.un N c n = some t := by
  induction h with
  | @mk n x e q ih =>
    obtain ⟨t, ht⟩ := mk1_some (g := Mini.un N c) (w n x e) ih
    exact ⟨t, un_bound N L c hL hc (N + 1) n t (by rw [un_mk1, e]; exact ht)⟩
/-! ### dicts with numbers as keys: reading, writing -/
theorem setixW_N {a : Addr} {kv : List (Nat × D)} {n : Nat} {v : D} {S : Sto} {Q : Sto → Prop} (h : S a = some (.dct (dN kv))) (hl : kv.length ≤ 100000) (q : Q (S.upd a (.dct (dput (dN kv) (.inl (n : Int)) v)))) : setixW (.ref a) (.int (n : Int)) v S Q := by
  unfold setixW
  dsimp only
  rw [h]
  exact ⟨of_eq_true (sz_lt (by simp only [dN, List.length_map]; omega)), q⟩
theorem ixW_N {a : Addr} {kv : List (Nat × D)} {n : Nat} {d : D} {S : Sto} {Q : QD} (h : S a = some (.dct (dN kv))) (e : kget kv n = some d) (q : Q d S) : ixW (.ref a) (.int (n : Int)) S Q := by
  unfold ixW
  dsimp only
  rw [h]
  exact ⟨d, by rw [dget_N]; exact e, q⟩
theorem inW_N {a : Addr} {kv : List (Nat × D)} {n : Nat} {neg : Bool} {S : Sto} {Q : QD} (h : S a = some (.dct (dN kv))) (q : Q (.bl (neg ^^ (kget kv n).isSome)) S) : inW (.int (n : Int)) (.ref a) neg S Q := by
  unfold inW
  dsimp only
  rw [h]
  show Q (.bl (neg ^^ (dget (dN kv) (.inl (n : Int))).isSome)) S
  rw [dget_N]
  exact q
end Mini
end L2
/-! Mini, part Y: the machine by need -/
namespace L2
namespace Mini
open PySem PySem.Spec PyProof.Rows
inductive It where | num (n : Nat) | wr (n : Nat)
inductive Lk where | tm (t : Tm) (e : List Nat) | sk (l : List Nat) (a : List Nat)
structure Ns where
  k : Lk
  s : List It
  c : List Cx
def itD : It → D
  | .num n => .int (n : Int)
  | .wr n => .tup [sWr, .int (n : Int)]
def lkD : Lk → D
  | .tm t e => .tup [sTm, enc t, nts e]
  | .sk l a => .tup [sSk, .tup [sNm, .str l], nts a]
abbrev sByN : D := .str [98, 121, 32, 110, 101, 101, 100]
def nsD (m : Ns) : D := .tup [sByN, lkD m.k, .tup (m.s.map itD), .tup (m.c.map cxD)]
def lx : Lk → Cx
  | .tm t e => .wt t e
  | .sk l a => .sk l a
/-- the cell for an argument -/
def cellN (c : List Cx) : Tm → List Nat → Nat × List Cx
  | .av i, e => (e.getD i 0, c)
  | t, e => (c.length, c ++ [.wt t e])
def ask (n : Nat) (x : Cx) (s : List It) (c : List Cx) : Option (Wd × Ns) :=
  match x with
  | .wt t e => some (.other, ⟨.tm t e, .wr n :: s, c⟩)
  | .fc t e => some (.other, ⟨.tm (.fn t) e, s, c⟩)
  | .sk l a => some (.other, ⟨.sk l a, s, c⟩)
  | .ct _ => none
def nstep : Ns → Option (Wd × Ns)
  | ⟨.tm (.cl f a) e, s, c⟩ => some (.other, ⟨.tm f e, .num (cellN c a e).1 :: s, (cellN c a e).2⟩)
  | ⟨.tm (.fn t) e, .num x :: s, c⟩ => some (.put, ⟨.tm t (x :: e), s, c⟩)
  | ⟨.tm (.fn t) e, .wr n :: s, c⟩ => some (.other, ⟨.tm (.fn t) e, s, c.set n (.fc t e)⟩)
  | ⟨.tm (.nm l) e, s, c⟩ => some (.other, ⟨.sk l [], s, c⟩)
  | ⟨.tm (.av i) e, s, c⟩ => ask (e.getD i 0) (c.getD (e.getD i 0) (.ct (.av 0))) s c
  | ⟨.sk l a, .num x :: s, c⟩ => some (.other, ⟨.sk l (a ++ [x]), s, c⟩)
  | ⟨.sk l a, .wr n :: s, c⟩ => some (.other, ⟨.sk l a, s, c.set n (.sk l a)⟩)
  | _ => none
/-- the numbers on the stack that are to be written -/
def mks : List It → List Nat
  | [] => []
  | .num _ :: s => mks s
  | .wr n :: s => n :: mks s
def cOf (c : List Cx) (s : List It) : Ctx := fun n => if n ∈ mks s then none else c[n]?
theorem cOf_in {c : List Cx} {s : List It} {n : Nat} (h : n ∈ mks s) : cOf c s n = none := if_pos h
theorem cOf_out {c : List Cx} {s : List It} {n : Nat} (h : n ∉ mks s) : cOf c s n = c[n]? := if_neg h
theorem cOf_wr {c : List Cx} {s : List It} {n : Nat} : cOf c (.wr n :: s) = (cOf c s).cut n := by
  funext m
  unfold cOf Ctx.cut
  by_cases e : m = n
  · subst e; simp [mks]
  · rw [if_neg e]
    simp [mks, e]
theorem cOf_new {c : List Cx} {s : List It} {x : Cx} (h : ∀ n ∈ mks s, n < c.length) : cOf (c ++ [x]) s = (cOf c s).set c.length x := by
  funext m
  by_cases e : m = c.length
  · subst e
    rw [Ctx.set_same, cOf_out fun q => Nat.lt_irrefl _ (h _ q)]
    simp
  · rw [Ctx.set_ne e]
    by_cases q : m ∈ mks s
    · rw [cOf_in q, cOf_in q]
    · rw [cOf_out q, cOf_out q, List.getElem?_append]
      split
      · rfl
      · rename_i hm
        rw [List.getElem?_eq_none (by simp only [List.length_cons, List.length_nil]; omega), List.getElem?_eq_none (by omega)]
theorem cOf_set {c : List Cx} {s : List It} {n : Nat} {x : Cx} (h : n ∉ mks s) (hl : n < c.length) : cOf (c.set n x) s = (cOf c (.wr n :: s)).set n x := by
  rw [cOf_wr]
  funext m
  by_cases e : m = n
  · subst e
    rw [Ctx.set_same, cOf_out h]
    simp [hl]
  · rw [Ctx.set_ne e, Ctx.cut_ne e]
    by_cases q : m ∈ mks s
    · rw [cOf_in q, cOf_in q]
    · rw [cOf_out q, cOf_out q, List.getElem?_set_ne (Ne.symm e)]
theorem cOf_some {c : List Cx} {s : List It} {n : Nat} {x : Cx} (h : cOf c s n = some x) : n ∉ mks s ∧ c[n]? = some x := by
  unfold cOf at h
  by_cases q : n ∈ mks s
  · rw [if_pos q] at h; cases h
  · rw [if_neg q] at h; exact ⟨q, h⟩
/-- the stack is told, marks and all -/
def USd : Ctx → List It → Prop
  | _, [] => True
  | c, .num m :: s => Ac c m ∧ USd c s
  | c, .wr m :: s => USd (c.set m (.ct (.av 0))) s
theorem USd.sub : ∀ {s : List It} {c c' : Ctx}, Sb c c' → USd c s → USd c' s
  | [], _, _, _, _ => trivial
  | .num m :: s, c, c', b, h => ⟨h.1.sub b, USd.sub b h.2⟩
  | .wr m :: s, c, c', b, h => USd.sub (s := s) b.set h
theorem set_set {c : Ctx} {n : Nat} {x y : Cx} : (c.set n x).set n y = c.set n y := by
  funext m
  unfold Ctx.set
  by_cases e : m = n
  · rw [if_pos e, if_pos e]
  · rw [if_neg e, if_neg e, if_neg e]
theorem set_comm {c : Ctx} {n m : Nat} {x y : Cx} (h : n ≠ m) : (c.set n x).set m y = (c.set m y).set n x := by
  funext k
  unfold Ctx.set
  by_cases e : k = m
  · subst e; rw [if_pos rfl, if_neg (Ne.symm h), if_pos rfl]
  · rw [if_neg e, if_neg e]
theorem USd.plug : ∀ {s : List It} {c : Ctx} {n : Nat} {x : Cx} {t : Tm}, c n = none → (∀ m, m ∈ ndl x → Ac c m) → USd (c.set n (.ct t)) s → USd (c.set n x) s
  | [], _, _, _, _, _, _, _ => trivial
  | .num m :: s, c, n, x, t, h0, hx, h => ⟨h.1.plug h0 hx, USd.plug h0 hx h.2⟩
  | .wr m :: s, c, n, x, t, h0, hx, h => by
    show USd ((c.set n x).set m (.ct (.av 0))) s
    have h : USd ((c.set n (.ct t)).set m (.ct (.av 0))) s := h
    by_cases e : n = m
    · subst e
      rw [set_set] at h ⊢
      exact h
    · rw [set_comm e] at h ⊢
      exact USd.plug (s := s) (by rw [Ctx.set_ne e]; exact h0) (fun m hm => (hx m hm).sub Sb.know) h
/-- bounds of a cell -/
def cb (D k : Nat) : Cx → Prop
  | .wt t e => clo e.length t = true ∧ good t = true ∧ (e.length + dp t ≤ D ∧ sz t ≤ 90000)
  | .fc t e => clo e.length (.fn t) = true ∧ good (.fn t) = true ∧ (e.length + dp (.fn t) ≤ D ∧ sz (.fn t) ≤ 90000)
  | .sk l a => nameB l = true ∧ a.length ≤ k
  | .ct _ => False
theorem cb.mono {D k k' : Nat} {x : Cx} (h : cb D k x) (hk : k ≤ k') : cb D k' x := by
  cases x with
  | wt t e => exact h
  | fc t e => exact h
  | sk l a => exact ⟨h.1, Nat.le_trans h.2 hk⟩
  | ct t => exact h
theorem cb.cw {D k : Nat} {x : Cx} (h : cb D k x) : Mini.cw x = true := by
  cases x with
  | wt t e => exact h.1
  | fc t e => exact h.1
  | sk l a => rfl
  | ct t => rfl
theorem cb.gx {D k : Nat} {x : Cx} (h : cb D k x) : Mini.gx x = true := by
  cases x with
  | wt t e => exact h.2.1
  | fc t e => exact h.2.1
  | sk l a => exact h.1
  | ct t => cases h
structure Nw (D k : Nat) (m : Ns) : Prop where
  lb : cb D k (lx m.k)
  la : ∀ n, n ∈ ndl (lx m.k) → Ac (cOf m.c m.s) n
  cs : ∀ x ∈ m.c, cb D k x
  mn : (mks m.s).Nodup
  mw : ∀ n ∈ mks m.s, ∃ t e, m.c[n]? = some (.wt t e)
  sd : USd (cOf m.c m.s) m.s
  sl : m.s.length ≤ k
  cl : m.c.length ≤ k
theorem free_up : ∀ {t : Tm} {d i : Nat}, free t d (i + 1) = free t (d + 1) i
  | .av j, d, i => by simp only [free]; congr 1; exact propext ⟨fun h => by omega, fun h => by omega⟩
  | .nm _, _, _ => rfl
  | .fn t, d, i => by simp only [free]; exact free_up
  | .cl t u, d, i => by simp only [free]; rw [free_up (t := t), free_up (t := u)]
theorem Ac.at_ {c : List Cx} {s : List It} {n : Nat} (h : Ac (cOf c s) n) : ∃ x, c[n]? = some x ∧ n ∉ mks s ∧ cOf c s n = some x := by
  obtain ⟨x, e, _⟩ := h.inv
  exact ⟨x, (cOf_some e).2, (cOf_some e).1, e⟩
theorem mks_lt {c : List Cx} {s : List It} (h : ∀ n ∈ mks s, ∃ t e, c[n]? = some (Cx.wt t e)) : ∀ n ∈ mks s, n < c.length := fun n hn => by
  obtain ⟨t, e, q⟩ := h n hn
  exact (List.getElem?_eq_some_iff.mp q).1
theorem Nw.begin {D : Nat} {t : Tm} (hg : good t = true) (hc : clo 0 t = true) (hd : dp t ≤ D) (hz : sz t ≤ 90000) : Nw D 0 ⟨.tm t [], [], []⟩ :=
  ⟨⟨hc, hg, by simpa using hd, hz⟩, fun n hn => (by
    obtain ⟨i, _, h2⟩ := (mem_ndlT (e := []) hc).mp hn
    cases h2), fun x hx => (by cases hx), List.nodup_nil, fun n hn => (by cases hn), trivial, Nat.le_refl _, Nat.le_refl _⟩
/-- a cell behind a mark is written -/
theorem Nw.write {D k : Nat} {n : Nat} {s : List It} {c : List Cx} {q : Lk} {x : Cx} (w : Nw D k ⟨q, .wr n :: s, c⟩) (hx : cb D k x) (hn : ∀ m, m ∈ ndl x → m ∈ ndl (lx q)) : Nw D (k + 1) ⟨q, s, c.set n x⟩ := by
  have mn := w.mn
  simp only [mks, List.nodup_cons] at mn
  obtain ⟨t, e, hw⟩ := w.mw n (by simp [mks])
  have hl := (List.getElem?_eq_some_iff.mp hw).1
  have la := w.la
  have sd := w.sd
  dsimp only at la sd
  have h0 : cOf c (.wr n :: s) n = none := by unfold cOf; rw [if_pos (by simp [mks])]
  have sb : Sb (cOf c (.wr n :: s)) ((cOf c (.wr n :: s)).set n x) := Sb.new h0
  refine ⟨w.lb.mono (Nat.le_succ k), fun m hm => ?_, fun y hy => ?_, mn.2, fun m hm => ?_, ?_, ?_, ?_⟩
  · dsimp only
    rw [cOf_set mn.1 hl]
    exact (la m hm).sub sb
  · rcases List.mem_or_eq_of_mem_set hy with hy | rfl
    · exact (w.cs y hy).mono (Nat.le_succ k)
    · exact hx.mono (Nat.le_succ k)
  · have ne : m ≠ n := fun e => mn.1 (by rw [← e]; exact hm)
    obtain ⟨t', e', h'⟩ := w.mw m (by simp only [mks, List.mem_cons]; exact .inr hm)
    exact ⟨t', e', by dsimp only; rw [List.getElem?_set_ne (Ne.symm ne)]; exact h'⟩
  · dsimp only
    rw [cOf_set mn.1 hl]
    exact USd.plug h0 (fun m hm => la m (hn m hm)) sd
  · have := w.sl
    simp only [List.length_cons] at this
    dsimp only
    omega
  · have := w.cl
    dsimp only at this ⊢
    rw [List.length_set]
    omega
theorem nstep_nw {D k : Nat} {m m' : Ns} {x : Wd} (w : Nw D k m) (h : nstep m = some (x, m')) : Nw D (k + 1) m' := by
  obtain ⟨q, s, c⟩ := m
  have lb := w.lb
  have la := w.la
  have cs := w.cs
  have mn := w.mn
  have mw := w.mw
  have sd := w.sd
  have sl := w.sl
  have cl := w.cl
  dsimp only at lb la cs mn mw sd sl cl
  have cs1 : ∀ y ∈ c, cb D (k + 1) y := fun y hy => (cs y hy).mono (Nat.le_succ k)
  cases q with
  | tm t e =>
    obtain ⟨l1, l2, l3⟩ := lb
    cases t with
    | cl f a =>
      simp only [clo, good, dp, sz, Bool.and_eq_true] at l1 l2 l3
      have nf : ∀ n, n ∈ ndl (.wt f e) → Ac (cOf c s) n := fun n hn => by
        obtain ⟨i, h1, h2⟩ := (mem_ndlT l1.1).mp hn
        exact la n ((mem_ndlT (t := .cl f a) (by simp [clo, l1.1, l1.2])).mpr ⟨i, by simp [free, h1], h2⟩)
      have na : ∀ n i, free a 0 i = true → e[i]? = some n → Ac (cOf c s) n := fun n i h1 h2 =>
        la n ((mem_ndlT (t := .cl f a) (by simp [clo, l1.1, l1.2])).mpr ⟨i, by simp [free, h1], h2⟩)
      have ins : cellN c a e = (c.length, c ++ [.wt a e]) → Nw D (k + 1) m' := fun hi => by
        simp only [nstep, hi, Option.some.injEq, Prod.mk.injEq] at h
        rw [← h.2]
        have h0 : cOf c s c.length = none := by
          unfold cOf
          split
          · rfl
          · exact List.getElem?_eq_none (Nat.le_refl _)
        have sb : Sb (cOf c s) ((cOf c s).set c.length (.wt a e)) := Sb.new h0
        have eq : cOf (c ++ [.wt a e]) (.num c.length :: s) = (cOf c s).set c.length (.wt a e) := cOf_new (mks_lt mw)
        refine ⟨⟨l1.1, l2.1, by omega⟩, fun n hn => ?_, fun y hy => ?_, mn, fun n hn => ?_, ?_, ?_, ?_⟩
        · dsimp only; rw [eq]; exact (nf n hn).sub sb
        · rcases List.mem_append.mp hy with hy | hy
          · exact cs1 y hy
          · rw [List.mem_singleton.mp hy]
            exact ⟨l1.2, l2.2, by omega⟩
        · obtain ⟨t', e', h'⟩ := mw n hn
          exact ⟨t', e', by
            dsimp only
            rw [List.getElem?_append_left (List.getElem?_eq_some_iff.mp h').1]
            exact h'⟩
        · dsimp only
          rw [eq]
          refine ⟨.mk Ctx.set_same fun n hn => ?_, USd.sub sb sd⟩
          obtain ⟨i, h1, h2⟩ := (mem_ndlT l1.2).mp hn
          exact (na n i h1 h2).sub sb
        · simp only [List.length_cons]; omega
        · simp only [List.length_append, List.length_cons, List.length_nil]; omega
      cases a with
      | av i =>
        simp only [clo, decide_eq_true_eq] at l1
        simp only [nstep, cellN, Option.some.injEq, Prod.mk.injEq] at h
        rw [← h.2]
        refine ⟨⟨l1.1, l2.1, by omega⟩, nf, cs1, mn, mw, ⟨?_, sd⟩, ?_, ?_⟩
        · exact na _ i (by simp [free]) (by rw [List.getElem?_eq_getElem l1.2]; simp [l1.2])
        · simp only [List.length_cons]; omega
        · dsimp only; omega
      | nm l => exact ins rfl
      | fn t => exact ins rfl
      | cl t u => exact ins rfl
    | fn t =>
      cases s with
      | nil => cases h
      | cons i s =>
        cases i with
        | num y =>
          simp only [nstep, Option.some.injEq, Prod.mk.injEq] at h
          rw [← h.2]
          simp only [clo, good, dp, sz] at l1 l2 l3
          refine ⟨⟨by simpa using l1, l2, by simp only [List.length_cons]; omega⟩, fun n hn => ?_, cs1, mn, mw, sd.2, ?_, ?_⟩
          · obtain ⟨i, h1, h2⟩ := (mem_ndlT (e := y :: e) (by simpa using l1)).mp hn
            cases i with
            | zero =>
              simp only [List.getElem?_cons_zero, Option.some.injEq] at h2
              rw [← h2]
              exact sd.1
            | succ i =>
              exact la n ((mem_ndlT (t := .fn t) (e := e) l1).mpr ⟨i, by rw [free_up] at h1; exact h1, by simpa using h2⟩)
          · simp only [List.length_cons] at sl; dsimp only; omega
          · dsimp only; omega
        | wr n =>
          simp only [nstep, Option.some.injEq, Prod.mk.injEq] at h
          rw [← h.2]
          exact w.write (x := .fc t e) ⟨l1, l2, l3⟩ fun m hm => hm
    | nm l =>
      simp only [nstep, Option.some.injEq, Prod.mk.injEq] at h
      rw [← h.2]
      exact ⟨⟨l2, Nat.zero_le _⟩, fun n hn => (by cases hn), cs1, mn, mw, sd, by dsimp only; omega, by dsimp only; omega⟩
    | av i =>
      simp only [clo, decide_eq_true_eq] at l1
      have hn : Ac (cOf c s) e[i] := la _ ((mem_ndlT (t := .av i) (e := e) (by simp [clo, l1])).mpr ⟨i, by simp [free], List.getElem?_eq_getElem l1⟩)
      obtain ⟨y, hy, hm, hcy⟩ := hn.at_
      have e1 : e.getD i 0 = e[i] := by simp [l1]
      have e2 : c.getD e[i] (.ct (.av 0)) = y := by rw [List.getD_eq_getElem?_getD, hy]; rfl
      have hb := cs y (List.mem_of_getElem? hy)
      simp only [nstep, e1, e2] at h
      cases y with
      | wt t' e' =>
        simp only [ask, Option.some.injEq, Prod.mk.injEq] at h
        rw [← h.2]
        refine ⟨hb, fun n hn' => ?_, cs1, ?_, fun n hn' => ?_, ?_, ?_, ?_⟩
        · dsimp only; rw [cOf_wr]; exact hn.cut hcy hn'
        · simp only [mks, List.nodup_cons]; exact ⟨hm, mn⟩
        · simp only [mks, List.mem_cons] at hn'
          rcases hn' with rfl | hn'
          · exact ⟨t', e', hy⟩
          · exact mw n hn'
        · dsimp only
          rw [cOf_wr]
          show USd (((cOf c s).cut e[i]).set e[i] (.ct (.av 0))) s
          have : ((cOf c s).cut e[i]).set e[i] (.ct (.av 0)) = (cOf c s).set e[i] (.ct (.av 0)) := by
            funext m
            unfold Ctx.set Ctx.cut
            by_cases q : m = e[i]
            · rw [if_pos q, if_pos q]
            · rw [if_neg q, if_neg q, if_neg q]
          rw [this]
          exact USd.sub Sb.know sd
        · simp only [List.length_cons]; omega
        · dsimp only; omega
      | fc t' e' =>
        simp only [ask, Option.some.injEq, Prod.mk.injEq] at h
        rw [← h.2]
        exact ⟨hb, fun n hn' => hn.need hcy n hn', cs1, mn, mw, sd, by dsimp only; omega, by dsimp only; omega⟩
      | sk l' a' =>
        simp only [ask, Option.some.injEq, Prod.mk.injEq] at h
        rw [← h.2]
        exact ⟨hb.mono (Nat.le_succ k), fun n hn' => hn.need hcy n hn', cs1, mn, mw, sd, by dsimp only; omega, by dsimp only; omega⟩
      | ct t' => cases hb
  | sk l a =>
    cases s with
    | nil => cases h
    | cons i s =>
      cases i with
      | num y =>
        simp only [nstep, Option.some.injEq, Prod.mk.injEq] at h
        rw [← h.2]
        refine ⟨⟨lb.1, by have := lb.2; simp only [List.length_append, List.length_cons, List.length_nil]; omega⟩, fun n hn => ?_, cs1, mn, mw, sd.2, ?_, ?_⟩
        · rcases List.mem_append.mp hn with hn | hn
          · exact la n hn
          · rw [List.mem_singleton.mp hn]; exact sd.1
        · simp only [List.length_cons] at sl; dsimp only; omega
        · dsimp only; omega
      | wr n =>
        simp only [nstep, Option.some.injEq, Prod.mk.injEq] at h
        rw [← h.2]
        exact w.write (x := .sk l a) lb fun m hm => hm
/-! ### the term of a state -/
def ustk (N : Nat) : Ctx → Tm → List It → Option Tm
  | _, f, [] => some f
  | c, f, .num m :: s => match un N c m with | some u => ustk N c (.cl f u) s | none => none
  | c, f, .wr m :: s => ustk N (c.set m (.ct f)) f s
theorem ustk_some {N : Nat} {L : List Nat} (hL : L.length ≤ N) : ∀ (s : List It) (c : Ctx) (f : Tm), (∀ n, c n ≠ none → n ∈ L) → (∀ n ∈ mks s, n ∈ L) → (∀ n x, c n = some x → cw x = true) → USd c s → ∃ t, ustk N c f s = some t
  | [], c, f, _, _, _, _ => ⟨f, rfl⟩
  | .num m :: s, c, f, h1, h2, w, d => by
    obtain ⟨u, hu⟩ := d.1.un hL h1 w
    obtain ⟨t, ht⟩ := ustk_some hL s c (.cl f u) h1 h2 w d.2
    exact ⟨t, by unfold ustk; rw [hu]; exact ht⟩
  | .wr m :: s, c, f, h1, h2, w, d => by
    have hm : m ∈ L := h2 m (by simp [mks])
    refine ustk_some hL s (c.set m (.ct f)) f (fun n hn => ?_) (fun n hn => h2 n (by simp [mks, hn])) (fun n x e => ?_) (USd.sub (Sb.set (Sb.refl c)) d)
    · by_cases e : n = m
      · rw [e]; exact hm
      · rw [Ctx.set_ne e] at hn; exact h1 n hn
    · by_cases q : n = m
      · subst q; rw [Ctx.set_same] at e; cases e; rfl
      · rw [Ctx.set_ne q] at e; exact w n x e
/-- the term that a state stands for -/
theorem Nw.term {D k : Nat} {m : Ns} (w : Nw D k m) : ∃ f t, mk1 (un m.c.length (cOf m.c m.s)) (lx m.k) = some f ∧ ustk m.c.length (cOf m.c m.s) f m.s = some t := by
  have hL : (List.range m.c.length).length ≤ m.c.length := by rw [List.length_range]; exact Nat.le_refl _
  have h1 : ∀ n, cOf m.c m.s n ≠ none → n ∈ List.range m.c.length := fun n hn => by
    obtain ⟨x, hx⟩ := Option.ne_none_iff_exists'.mp hn
    exact List.mem_range.mpr (List.getElem?_eq_some_iff.mp (cOf_some hx).2).1
  have hw : ∀ n x, cOf m.c m.s n = some x → cw x = true := fun n x e => (w.cs x (List.mem_of_getElem? (cOf_some e).2)).cw
  obtain ⟨f, hf⟩ := mk1_some (g := un m.c.length (cOf m.c m.s)) w.lb.cw fun n hn => (w.la n hn).un hL h1 hw
  obtain ⟨t, ht⟩ := ustk_some hL m.s (cOf m.c m.s) f h1 (fun n hn => List.mem_range.mpr (mks_lt w.mw n hn)) hw w.sd
  exact ⟨f, t, hf, ht⟩
end Mini
end L2
/-! Mini, part Z: what is known of cells, and learned -/
namespace L2
namespace Mini
open PySem PySem.Spec PyProof.Rows
/-- what the object may be asked for -/
def cx6 : Cx → Prop
  | .wt t e => clo e.length t = true ∧ good t = true ∧ e.length < 64 ∧ dp t ≤ 100 ∧ sz t ≤ 90000
  | .fc t e => clo e.length (.fn t) = true ∧ good t = true ∧ e.length < 64 ∧ dp t ≤ 99 ∧ sz t ≤ 90000
  | .sk l a => nameB l = true ∧ a.length < 200
  | .ct _ => False
theorem cb.cx6 {D k : Nat} {x : Cx} (h : cb D k x) (hD : D ≤ 63) (hk : k < 200) : Mini.cx6 x := by
  cases x with
  | wt t e =>
    obtain ⟨h1, h2, h3, h4⟩ := h
    have := dp_pos t
    exact ⟨h1, h2, by omega, by omega, h4⟩
  | fc t e =>
    obtain ⟨h1, h2, h3, h4⟩ := h
    simp only [dp, sz] at h3 h4
    exact ⟨h1, h2, by omega, by omega, by omega⟩
  | sk l a => exact ⟨h.1, Nat.lt_of_le_of_lt h.2 hk⟩
  | ct t => cases h
theorem cx6.cw {x : Cx} (h : cx6 x) : Mini.cw x = true := by
  cases x with
  | wt t e => exact h.1
  | fc t e => exact h.1
  | sk l a => rfl
  | ct t => cases h
theorem cx6.len {x : Cx} (h : cx6 x) : (ndl x).length ≤ 200 := by
  cases x with
  | wt t e =>
    have h1 := List.length_filterMap_le (fun i => e[i]?) (fpl t e.length)
    have h2 := fpl_len t e.length
    have h3 := h.2.2.1
    simp only [ndl]
    omega
  | fc t e =>
    have h1 := List.length_filterMap_le (fun i => e[i]?) (fpl (.fn t) e.length)
    have h2 := fpl_len (.fn t) e.length
    have h3 := h.2.2.1
    simp only [ndl]
    omega
  | sk l a => exact Nat.le_of_lt h.2
  | ct t => cases h
/-- what is known of cells is so -/
structure Rk (c : Ctx) (cs : List Cx) (kn : List (Nat × Tm)) (N : Nat) : Prop where
  cell : ∀ n x, c n = some x → kget kn n = none → cs[n]? = some x ∧ cx6 x
  told : ∀ n T, kget kn n = some T → un N c n = some T
  nd : (kn.map (·.1)).Nodup
  sm : ∀ n T, kget kn n = some T → sz T ≤ 4000
  dom : ∀ n, c n ≠ none → n < N
theorem Rk.sat {c : Ctx} {cs : List Cx} {kn : List (Nat × Tm)} {N k n : Nat} {T : Tm} (h : Rk c cs kn N) (e : un k c n = some T) : un N c n = some T :=
  un_bound N (List.range N) c (by rw [List.length_range]; exact Nat.le_refl _) (fun n hn => List.mem_range.mpr (h.dom n hn)) k n T e
theorem un_ne {c : Ctx} {n : Nat} {T : Tm} : ∀ {k : Nat}, un k c n = some T → c n ≠ none
  | 0, h, _ => by cases h
  | k + 1, h, e => by rw [un_mk1, e] at h; cases h
theorem kget_some_iff {α : Type} {kn : List (Nat × α)} {n : Nat} (h : n ∈ kn.map (·.1)) : ∃ T, kget kn n = some T := by
  cases e : kget kn n with
  | none => exact absurd h (kget_none.mp e)
  | some T => exact ⟨T, rfl⟩
theorem Rk.len {c : Ctx} {cs : List Cx} {kn : List (Nat × Tm)} {N : Nat} (h : Rk c cs kn N) : kn.length ≤ N := by
  have := nodup_len N (kn.map (·.1)) h.nd fun n hn => by
    obtain ⟨T, hT⟩ := kget_some_iff hn
    exact h.dom n (un_ne (h.told n T hT))
  rw [List.length_map] at this
  exact this
theorem Rk.push {c : Ctx} {cs : List Cx} {kn : List (Nat × Tm)} {N n : Nat} {x : Cx} {T : Tm} (h : Rk c cs kn N) (hn : kget kn n = none) (hc : c n = some x) (hT : mk1 (kget kn) x = some T) (hz : sz T ≤ 4000) : Rk c cs (kn ++ [(n, T)]) N ∧ un N c n = some T := by
  have hni : n ∉ kn.map (·.1) := kget_none.mp hn
  have hu : un N c n = some T := h.sat (k := N + 1) (by rw [un_mk1, hc]; exact mk1_mono (fun m t e => h.told m t e) hT)
  refine ⟨⟨fun m y e1 e2 => h.cell m y e1 ?_, fun m t e => ?_, ?_, fun m t e => ?_, h.dom⟩, hu⟩
  · rw [kget_snoc hni] at e2
    split at e2
    · cases e2
    · exact e2
  · rw [kget_snoc hni] at e
    split at e
    · rename_i q; cases e; rw [q]; exact hu
    · exact h.told m t e
  · rw [List.map_append, List.nodup_append]
    exact ⟨h.nd, by simp, fun a ha b hb => by
      simp only [List.map_cons, List.map_nil, List.mem_singleton] at hb
      rw [hb]
      exact fun e => hni (by rw [← e]; exact ha)⟩
  · rw [kget_snoc hni] at e
    split at e
    · cases e; exact hz
    · exact h.sm m t e
/-- a mark is written: known, with what it stands for -/
theorem Rk.mark {c : Ctx} {cs : List Cx} {kn : List (Nat × Tm)} {N z : Nat} {t : Tm} (h : Rk c cs kn N) (hc : c z = none) (hz : z < N) (hs : sz t ≤ 4000) : kget kn z = none ∧ Rk (c.set z (.ct t)) cs (kn ++ [(z, t)]) N := by
  have hk : kget kn z = none := by
    cases e : kget kn z with
    | none => rfl
    | some T => exact absurd hc (un_ne (h.told z T e))
  have hni : z ∉ kn.map (·.1) := kget_none.mp hk
  refine ⟨hk, fun m y e1 e2 => ?_, fun m u e => ?_, ?_, fun m u e => ?_, fun m hm => ?_⟩
  · rw [kget_snoc hni] at e2
    by_cases q : m = z
    · rw [if_pos q] at e2; cases e2
    · rw [if_neg q] at e2
      rw [Ctx.set_ne q] at e1
      exact h.cell m y e1 e2
  · rw [kget_snoc hni] at e
    by_cases q : m = z
    · rw [if_pos q] at e
      cases e
      subst q
      obtain ⟨k, rfl⟩ : ∃ k, N = k + 1 := ⟨N - 1, by omega⟩
      rw [un_mk1, Ctx.set_same]
      rfl
    · rw [if_neg q] at e
      refine un_mono (fun n x q => ?_) N m u (h.told m u e)
      have ne : n ≠ z := fun e => by rw [e, hc] at q; cases q
      rw [Ctx.set_ne ne]
      exact q
  · rw [List.map_append, List.nodup_append]
    exact ⟨h.nd, by simp, fun a ha b hb => by
      simp only [List.map_cons, List.map_nil, List.mem_singleton] at hb
      rw [hb]
      exact fun e => hni (by rw [← e]; exact ha)⟩
  · rw [kget_snoc hni] at e
    by_cases q : m = z
    · rw [if_pos q] at e; cases e; exact hs
    · rw [if_neg q] at e; exact h.sm m u e
  · by_cases q : m = z
    · rw [q]; exact hz
    · rw [Ctx.set_ne q] at hm; exact h.dom m hm
theorem Rk.begin {D k : Nat} {m : Ns} (w : Nw D k m) (hD : D ≤ 63) (hk : k < 200) : Rk (cOf m.c m.s) m.c [] m.c.length :=
  ⟨fun n x e _ => ⟨(cOf_some e).2, (w.cs x (List.mem_of_getElem? (cOf_some e).2)).cx6 hD hk⟩, fun n T e => (by cases e), List.nodup_nil, fun n T e => (by cases e), fun n hn => by
    obtain ⟨x, hx⟩ := Option.ne_none_iff_exists'.mp hn
    exact (List.getElem?_eq_some_iff.mp (cOf_some hx).2).1⟩
def Ext (kn kn' : List (Nat × Tm)) : Prop := ∀ n T, kget kn n = some T → kget kn' n = some T
theorem Ext.refl (kn : List (Nat × Tm)) : Ext kn kn := fun _ _ h => h
theorem Ext.trans {a b c : List (Nat × Tm)} (h : Ext a b) (g : Ext b c) : Ext a c := fun n T e => g n T (h n T e)
theorem Ext.snoc {kn : List (Nat × Tm)} {n : Nat} {T : Tm} (h : kget kn n = none) : Ext kn (kn ++ [(n, T)]) := fun m t e => by
  rw [kget_snoc (kget_none.mp h)]
  split
  · rename_i q; rw [q, h] at e; cases e
  · exact e
/-- what waits to be learned: opened, or with the turns that tell it -/
structure Iv (c : Ctx) (N B : Nat) (kn : List (Nat × Tm)) (st : List (Nat × Option Nat)) : Prop where
  a : ∀ x ∈ st, ∃ T, un N c x.1 = some T
  b : ∀ i n k, st[i]? = some (n, some k) → (∃ T, un k c n = some T) ∧ i + 1 + 200 * k ≤ B
  o : ∀ i n, st[i]? = some (n, none) → ∀ x, c n = some x → ∀ m ∈ ndl x, kget kn m ≠ none ∨ ∃ (j : Nat) (o : Option Nat), i < j ∧ st[j]? = some (m, o)
  g : st.length ≤ B
def Wm : Nat → Nat
  | 0 => 2
  | k + 1 => 2 + 200 * Wm k
def wOf : Option Nat → Nat
  | none => 1
  | some k => Wm k
def wS (st : List (Nat × Option Nat)) : Nat := (st.map fun x => wOf x.2).sum
theorem wOf_pos (o : Option Nat) : 1 ≤ wOf o := by
  cases o with
  | none => exact Nat.le_refl _
  | some k => cases k <;> simp only [wOf, Wm] <;> omega
theorem wS_app (a b : List (Nat × Option Nat)) : wS (a ++ b) = wS a + wS b := by simp [wS]
theorem wS_one (x : Nat × Option Nat) : wS [x] = wOf x.2 := by simp [wS]
theorem wS_map (k : Nat) : ∀ l : List Nat, wS (l.map fun m => (m, some k)) = l.length * Wm k
  | [] => by simp [wS]
  | m :: l => by
    have := wS_map k l
    simp only [wS, List.map_cons, List.sum_cons, List.length_cons, wOf] at *
    rw [this, Nat.succ_mul, Nat.add_comm]
theorem Iv.pop {c : Ctx} {N B : Nat} {kn kn' : List (Nat × Tm)} {L : List (Nat × Option Nat)} {n : Nat} {o : Option Nat} (h : Iv c N B kn (L ++ [(n, o)])) (e : Ext kn kn') (hn : kget kn' n ≠ none) : Iv c N B kn' L := by
  have up : ∀ i y, L[i]? = some y → (L ++ [(n, o)])[i]? = some y := fun i y q => by
    rw [List.getElem?_append_left (List.getElem?_eq_some_iff.mp q).1]
    exact q
  refine ⟨fun x hx => h.a x (by simp [hx]), fun i m k q => h.b i m k (up i _ q), fun i m q x hx z hz => ?_, ?_⟩
  · rcases h.o i m (up i _ q) x hx z hz with g | ⟨j, o', h1, h2⟩
    · refine .inl fun g2 => ?_
      cases e2 : kget kn z with
      | none => exact g e2
      | some T => rw [e z T e2] at g2; cases g2
    · by_cases hj : j < L.length
      · rw [List.getElem?_append_left hj] at h2
        exact .inr ⟨j, o', h1, h2⟩
      · rw [List.getElem?_append_right (by omega)] at h2
        have h0 : j - L.length = 0 := by
          have := (List.getElem?_eq_some_iff.mp h2).1
          simp only [List.length_cons, List.length_nil] at this
          omega
        rw [h0] at h2
        simp only [List.getElem?_cons_zero, Option.some.injEq, Prod.mk.injEq] at h2
        rw [← h2.1]
        exact .inl hn
  · have := h.g
    simp only [List.length_append, List.length_cons, List.length_nil] at this
    omega
theorem Iv.push {c : Ctx} {N B k : Nat} {kn : List (Nat × Tm)} {L : List (Nat × Option Nat)} {n : Nat} {x : Cx} (h : Iv c N B kn (L ++ [(n, some (k + 1))])) (hc : c n = some x) (hx : cx6 x) (sat : ∀ k n T, un k c n = some T → un N c n = some T) : Iv c N B kn (L ++ [(n, none)] ++ ((ndl x).filter fun m => (kget kn m).isNone).map fun m => (m, some k)) := by
  have hb := h.b L.length n (k + 1) (by simp)
  obtain ⟨⟨T, hT⟩, hB⟩ := hb
  rw [un_mk1, hc] at hT
  have hall := mk1_all (g := un k c) hx.cw hT
  have hlen : ((ndl x).filter fun m => (kget kn m).isNone).length ≤ 200 := Nat.le_trans (List.length_filter_le _ _) hx.len
  have hst : (L ++ [(n, some (k + 1))]).length = L.length + 1 := by simp
  refine ⟨fun y hy => ?_, fun i m j q => ?_, fun i m q y hy z hz => ?_, ?_⟩
  · simp only [List.mem_append, List.mem_singleton, List.mem_map] at hy
    rcases hy with (hy | rfl) | ⟨m, hm, rfl⟩
    · exact h.a y (by simp [hy])
    · exact h.a (n, some (k + 1)) (by simp)
    · obtain ⟨v, hv⟩ := hall m (List.mem_filter.mp hm).1
      exact ⟨v, sat k m v hv⟩
  · by_cases hi : i < L.length
    · rw [List.append_assoc, List.getElem?_append_left hi] at q
      exact h.b i m j (by rw [List.getElem?_append_left hi]; exact q)
    · by_cases hi2 : i = L.length
      · subst hi2
        rw [List.append_assoc, List.getElem?_append_right (Nat.le_refl _), Nat.sub_self] at q
        simp at q
      · rw [List.getElem?_append_right (by simp only [List.length_append, List.length_cons, List.length_nil]; omega)] at q
        have hm := List.mem_of_getElem? q
        have hlt := (List.getElem?_eq_some_iff.mp q).1
        rw [List.length_map] at hlt
        obtain ⟨m', hm', e⟩ := List.mem_map.mp hm
        simp only [Prod.mk.injEq, Option.some.injEq] at e
        obtain ⟨rfl, rfl⟩ := e
        refine ⟨hall m' (List.mem_filter.mp hm').1, ?_⟩
        simp only [List.length_append, List.length_cons, List.length_nil] at hlt
        omega
  · by_cases hi : i < L.length
    · rw [List.append_assoc, List.getElem?_append_left hi] at q
      rcases h.o i m (by rw [List.getElem?_append_left hi]; exact q) y hy z hz with g | ⟨j, o', h1, h2⟩
      · exact .inl g
      · by_cases hj : j < L.length
        · rw [List.getElem?_append_left hj] at h2
          exact .inr ⟨j, o', h1, by rw [List.append_assoc, List.getElem?_append_left hj]; exact h2⟩
        · rw [List.getElem?_append_right (by omega)] at h2
          have h0 : j - L.length = 0 := by
            have := (List.getElem?_eq_some_iff.mp h2).1
            simp only [List.length_cons, List.length_nil] at this
            omega
          rw [h0] at h2
          simp only [List.getElem?_cons_zero, Option.some.injEq, Prod.mk.injEq] at h2
          refine .inr ⟨L.length, none, hi, ?_⟩
          rw [List.append_assoc, List.getElem?_append_right (Nat.le_refl _), Nat.sub_self, ← h2.1]
          rfl
    · by_cases hi2 : i = L.length
      · subst hi2
        rw [List.append_assoc, List.getElem?_append_right (Nat.le_refl _), Nat.sub_self] at q
        simp only [List.cons_append, List.getElem?_cons_zero, Option.some.injEq, Prod.mk.injEq, and_true] at q
        subst q
        rw [hc] at hy
        cases hy
        cases e : kget kn z with
        | some T => exact .inl (by simp)
        | none =>
          have hz2 : z ∈ (ndl x).filter fun m => (kget kn m).isNone := List.mem_filter.mpr ⟨hz, by rw [e]; rfl⟩
          obtain ⟨j, hj, ej⟩ := List.getElem_of_mem hz2
          refine .inr ⟨L.length + 1 + j, some k, by omega, ?_⟩
          rw [List.getElem?_append_right (by simp only [List.length_append, List.length_cons, List.length_nil]; omega)]
          have : L.length + 1 + j - (L ++ [(n, (none : Option Nat))]).length = j := by simp only [List.length_append, List.length_cons, List.length_nil]; omega
          rw [this, List.getElem?_map, List.getElem?_eq_getElem hj, ej]
          rfl
      · rw [List.getElem?_append_right (by simp only [List.length_append, List.length_cons, List.length_nil]; omega)] at q
        have hm := List.mem_of_getElem? q
        obtain ⟨m', hm', e⟩ := List.mem_map.mp hm
        cases e
  · simp only [List.length_append, List.length_cons, List.length_nil, List.length_map]
    omega
end Mini
end L2
/-! Mini, part V: the machine by name goes as weak steps do -/
namespace L2
namespace Mini
open PySem PySem.Spec PyProof.Rows
/-! ### closed terms -/
theorem clo_up : ∀ {t : Tm} {a b : Nat}, a ≤ b → clo a t = true → clo b t = true
  | .av j, a, b, h, c => by simp only [clo, decide_eq_true_eq] at c ⊢; omega
  | .nm _, _, _, _, _ => rfl
  | .fn t, a, b, h, c => clo_up (t := t) (Nat.succ_le_succ h) c
  | .cl t u, a, b, h, c => by
    simp only [clo, Bool.and_eq_true] at c ⊢
    exact ⟨clo_up h c.1, clo_up h c.2⟩
theorem fill_cl0 {g : Nat → Option Tm} {e : List Nat} (hg : ∀ n u, g n = some u → clo 0 u = true) : ∀ {t : Tm} {d : Nat} {u : Tm}, fill g t e d = some u → clo d u = true
  | .av j, d, u, q => by
    unfold fill at q
    split at q
    · rename_i h; cases q; simp [clo, h]
    · split at q
      · exact clo_up (Nat.zero_le d) (hg _ _ q)
      · cases q
  | .nm l, d, u, q => by cases q; rfl
  | .fn t, d, u, q => by
    unfold fill at q
    cases a : fill g t e (d + 1) with
    | none => rw [a] at q; cases q
    | some x =>
      rw [a] at q
      cases q
      have z := fill_cl0 hg (t := t) a
      exact z
  | .cl t v, d, u, q => by
    unfold fill at q
    cases a : fill g t e d with
    | none => rw [a] at q; cases q
    | some x =>
      cases b : fill g v e d with
      | none => rw [a, b] at q; cases q
      | some y =>
        rw [a, b] at q
        cases q
        simp [clo, fill_cl0 hg (t := t) a, fill_cl0 hg (t := v) b]
theorem argsT_cl0 {g : Nat → Option Tm} (hg : ∀ n u, g n = some u → clo 0 u = true) : ∀ {a : List Nat} {t u : Tm}, clo 0 t = true → argsT g t a = some u → clo 0 u = true
  | [], t, u, h, q => by cases q; exact h
  | n :: a, t, u, h, q => by
    unfold argsT at q
    cases x : g n with
    | none => rw [x] at q; cases q
    | some v => rw [x] at q; exact argsT_cl0 hg (a := a) (by simp [clo, h, hg n v x]) q
theorem un_cl0 {c : Ctx} (hc : ∀ n t, c n ≠ some (.ct t)) : ∀ (k n : Nat) (t : Tm), un k c n = some t → clo 0 t = true
  | 0, _, _, h => by cases h
  | k + 1, n, t, h => by
    have g := un_cl0 hc k
    unfold un at h
    cases e : c n with
    | none => rw [e] at h; cases h
    | some x =>
      rw [e] at h
      cases x with
      | ct v => exact absurd e (hc n v)
      | wt v e => exact fill_cl0 g h
      | fc v e => exact fill_cl0 g h
      | sk l a => exact argsT_cl0 g (t := .nm l) rfl h
/-! ### putting in -/
def shf : Tm → Nat → Nat → Tm
  | .av j, b, l => if l ≤ j then .av (j + b) else .av j
  | .nm w, _, _ => .nm w
  | .fn t, b, l => .fn (shf t b (l + 1))
  | .cl t u, b, l => .cl (shf t b l) (shf u b l)
def put : Tm → Tm → Nat → Tm
  | .av j, u, d => if j = d then shf u d 0 else if d < j then .av (j - 1) else .av j
  | .nm w, _, _ => .nm w
  | .fn t, u, d => .fn (put t u (d + 1))
  | .cl t v, u, d => .cl (put t u d) (put v u d)
theorem shf_clo : ∀ {t : Tm} {b l : Nat}, clo l t = true → shf t b l = t
  | .av j, b, l, h => by
    simp only [clo, decide_eq_true_eq] at h
    unfold shf
    rw [if_neg (by omega)]
  | .nm w, _, _, _ => rfl
  | .fn t, b, l, h => by
    unfold shf
    rw [shf_clo (t := t) h]
  | .cl t u, b, l, h => by
    simp only [clo, Bool.and_eq_true] at h
    unfold shf
    rw [shf_clo h.1, shf_clo h.2]
theorem put_clo : ∀ {t u : Tm} {d : Nat}, clo d t = true → put t u d = t
  | .av j, u, d, h => by
    simp only [clo, decide_eq_true_eq] at h
    unfold put
    rw [if_neg (by omega), if_neg (by omega)]
  | .nm w, _, _, _ => rfl
  | .fn t, u, d, h => by
    unfold put
    rw [put_clo (t := t) h]
  | .cl t v, u, d, h => by
    simp only [clo, Bool.and_eq_true] at h
    unfold put
    rw [put_clo h.1, put_clo h.2]
/-- one more surrounding is a term put in -/
theorem fill_put {g : Nat → Option Tm} {e : List Nat} {x : Nat} {X : Tm} (hg : ∀ n u, g n = some u → clo 0 u = true) (hx : g x = some X) : ∀ {t : Tm} {d : Nat} {B : Tm}, fill g t e (d + 1) = some B → fill g t (x :: e) d = some (put B X d)
  | .av j, d, B, q => by
    have cX := hg x X hx
    unfold fill at q ⊢
    by_cases h1 : j < d
    · rw [if_pos (by omega)] at q
      cases q
      rw [if_pos h1]
      unfold put
      rw [if_neg (by omega), if_neg (by omega)]
    · rw [if_neg h1]
      by_cases h2 : j = d
      · subst h2
        rw [if_pos (by omega)] at q
        cases q
        rw [Nat.sub_self]
        unfold put
        rw [if_pos rfl, shf_clo cX]
        exact hx
      · rw [if_neg (by omega)] at q
        have e1 : (x :: e)[j - d]? = e[j - (d + 1)]? := by
          rw [show j - d = (j - (d + 1)) + 1 by omega]
          rfl
        rw [e1]
        cases e2 : e[j - (d + 1)]? with
        | none => rw [e2] at q; cases q
        | some n =>
          rw [e2] at q
          have cB := hg n B q
          rw [put_clo (clo_up (Nat.zero_le d) cB)]
          exact q
  | .nm w, d, B, q => by cases q; rfl
  | .fn t, d, B, q => by
    unfold fill at q ⊢
    cases a : fill g t e (d + 1 + 1) with
    | none => rw [a] at q; cases q
    | some y =>
      rw [a] at q
      cases q
      rw [fill_put hg hx (t := t) a]
      rfl
  | .cl t v, d, B, q => by
    unfold fill at q ⊢
    cases a : fill g t e (d + 1) with
    | none => rw [a] at q; cases q
    | some y =>
      cases b : fill g v e (d + 1) with
      | none => rw [a, b] at q; cases q
      | some z =>
        rw [a, b] at q
        cases q
        rw [fill_put hg hx (t := t) a, fill_put hg hx (t := v) b]
        rfl
theorem shf_sz : ∀ (t : Tm) (b l : Nat), sz (shf t b l) = sz t
  | .av j, b, l => by unfold shf; split <;> rfl
  | .nm w, _, _ => rfl
  | .fn t, b, l => by unfold shf; simp only [sz]; rw [shf_sz t]
  | .cl t u, b, l => by unfold shf; simp only [sz]; rw [shf_sz t, shf_sz u]
theorem shf_good : ∀ {t : Tm} {b l : Nat}, good t = true → good (shf t b l) = true
  | .av j, b, l, _ => by unfold shf; split <;> rfl
  | .nm w, _, _, h => h
  | .fn t, b, l, h => shf_good (t := t) h
  | .cl t u, b, l, h => by
    simp only [good, Bool.and_eq_true] at h
    simp only [shf, good, Bool.and_eq_true]
    exact ⟨shf_good h.1, shf_good h.2⟩
theorem put_sz : ∀ (t u : Tm) (d : Nat), sz (put t u d) ≤ sz t * sz u
  | .av j, u, d => by
    have := sz_pos u
    unfold put
    split
    · rw [shf_sz]; simp only [sz]; omega
    · split <;> (simp only [sz]; omega)
  | .nm w, u, d => by have := sz_pos u; simp only [put, sz]; omega
  | .fn t, u, d => by
    have h1 := put_sz t u (d + 1)
    have := sz_pos u
    simp only [put, sz]
    rw [Nat.add_mul]
    omega
  | .cl t v, u, d => by
    have h1 := put_sz t u d
    have h2 := put_sz v u d
    have := sz_pos u
    simp only [put, sz]
    rw [Nat.add_mul, Nat.add_mul]
    omega
theorem put_good : ∀ {t u : Tm} {d : Nat}, good t = true → good u = true → good (put t u d) = true
  | .av j, u, d, _, hu => by
    unfold put
    split
    · exact shf_good hu
    · split <;> rfl
  | .nm w, _, _, h, _ => h
  | .fn t, u, d, h, hu => put_good (t := t) h hu
  | .cl t v, u, d, h, hu => by
    simp only [good, Bool.and_eq_true] at h
    simp only [put, good, Bool.and_eq_true]
    exact ⟨put_good h.1 hu, put_good h.2 hu⟩
/-! ### weak steps -/
def wk : Tm → Option Tm
  | .cl (.fn b) u => some (put b u 0)
  | .cl t u => (wk t).map fun v => .cl v u
  | _ => none
def isC : Tm → Bool
  | .cl _ _ => true
  | _ => false
theorem wk_cl {t u : Tm} (h : ∀ b, t ≠ .fn b) : wk (.cl t u) = (wk t).map fun v => .cl v u := by
  cases t with
  | fn b => exact absurd rfl (h b)
  | av j => rfl
  | nm w => rfl
  | cl a b => rfl
theorem wk_args {g : Nat → Option Tm} : ∀ {s : List Nat} {h T : Tm}, (∀ b, h ≠ .fn b) → argsT g h s = some T → (wk h = none → wk T = none) ∧ ∀ h', wk h = some h' → ∃ T', argsT g h' s = some T' ∧ wk T = some T'
  | [], h, T, hf, q => by
    cases q
    exact ⟨id, fun h' e => ⟨h', rfl, e⟩⟩
  | n :: s, h, T, hf, q => by
    unfold argsT at q
    cases x : g n with
    | none => rw [x] at q; cases q
    | some v =>
      rw [x] at q
      obtain ⟨i1, i2⟩ := wk_args (s := s) (h := .cl h v) (fun b e => by cases e) q
      rw [wk_cl hf] at i1 i2
      refine ⟨fun e => i1 (by rw [e]; rfl), fun h' e => ?_⟩
      obtain ⟨T', h1, h2⟩ := i2 (.cl h' v) (by rw [e]; rfl)
      exact ⟨T', by unfold argsT; rw [x]; exact h1, h2⟩
/-! ### the machine by name -/
def wtO (x : Tm × List Nat) : Cx := .wt x.1 x.2
def cM (c : List (Tm × List Nat)) : Ctx := fun n => (c.map wtO)[n]?
def gM (c : List (Tm × List Nat)) : Nat → Option Tm := un c.length (cM c)
/-- a cell needs older ones alone -/
def Old (c : List (Tm × List Nat)) : Prop := ∀ (i : Nat) (x : Tm × List Nat), c[i]? = some x → ∀ j ∈ x.2, j < i
def termM (m : Ms) : Option Tm := (fill (gM m.c) m.h m.e 0).bind fun f => argsT (gM m.c) f m.s
theorem cM_some {c : List (Tm × List Nat)} {n : Nat} {x : Cx} (h : cM c n = some x) : ∃ y, c[n]? = some y ∧ x = wtO y := by
  unfold cM at h
  rw [List.getElem?_map, Option.map_eq_some_iff] at h
  obtain ⟨y, h1, h2⟩ := h
  exact ⟨y, h1, h2.symm⟩
theorem gM_cl0 {c : List (Tm × List Nat)} : ∀ n u, gM c n = some u → clo 0 u = true := fun n u h => by
  refine un_cl0 (c := cM c) (fun n t e => ?_) _ n u h
  obtain ⟨y, _, h2⟩ := cM_some e
  cases h2
theorem cM_ac {c : List (Tm × List Nat)} (o : Old c) (w : ∀ x ∈ c, clo x.2.length x.1 = true) : ∀ n, n < c.length → Ac (cM c) n := by
  intro n
  induction n using Nat.strongRecOn with
  | _ n ih =>
    intro hn
    have e : cM c n = some (wtO c[n]) := by unfold cM; rw [List.getElem?_map, List.getElem?_eq_getElem hn]; rfl
    refine .mk e fun m hm => ?_
    have hc := w c[n] (List.getElem_mem hn)
    obtain ⟨i, _, h2⟩ := (mem_ndlT (t := c[n].1) (e := c[n].2) hc).mp hm
    have := o n c[n] (List.getElem?_eq_getElem hn) m (List.mem_of_getElem? h2)
    exact ih m this (by omega)
theorem gM_some {c : List (Tm × List Nat)} (o : Old c) (w : ∀ x ∈ c, clo x.2.length x.1 = true) {n : Nat} (hn : n < c.length) : ∃ u, gM c n = some u := by
  refine (cM_ac o w n hn).un (L := List.range c.length) (by rw [List.length_range]; exact Nat.le_refl _) (fun n hn => ?_) (fun n x e => ?_)
  · obtain ⟨x, hx⟩ := Option.ne_none_iff_exists'.mp hn
    obtain ⟨y, h1, _⟩ := cM_some hx
    exact List.mem_range.mpr (List.getElem?_eq_some_iff.mp h1).1
  · obtain ⟨y, h1, h2⟩ := cM_some e
    subst h2
    exact w y (List.mem_of_getElem? h1)
theorem gM_app {c : List (Tm × List Nat)} {x : Tm × List Nat} : ∀ n u, gM c n = some u → gM (c ++ [x]) n = some u := fun n u h => by
  unfold gM at *
  refine un_le (j := c.length) (by simp) (un_mono (c := cM c) (fun m y e => ?_) _ n u h)
  obtain ⟨z, h1, h2⟩ := cM_some e
  unfold cM
  rw [List.getElem?_map, List.getElem?_append_left (List.getElem?_eq_some_iff.mp h1).1, h1, h2]
  rfl
/-- what a cell holds -/
theorem gM_at {c : List (Tm × List Nat)} {n : Nat} {x : Tm × List Nat} {u : Tm} (hx : c[n]? = some x) (h : gM c n = some u) : fill (gM c) x.1 x.2 0 = some u := by
  unfold gM at h
  cases hl : c.length with
  | zero => rw [hl] at h; cases h
  | succ k =>
    rw [hl] at h
    rw [un_mk1] at h
    have e : cM c n = some (wtO x) := by unfold cM; rw [List.getElem?_map, hx]; rfl
    rw [e] at h
    unfold gM
    rw [hl]
    exact fill_mono (fun m t q => un_succ k _ m t q) _ _ _ _ h
theorem gM_new {c : List (Tm × List Nat)} {t : Tm} {e : List Nat} {u : Tm} (h : fill (gM c) t e 0 = some u) : gM (c ++ [(t, e)]) c.length = some u := by
  unfold gM
  rw [show (c ++ [(t, e)]).length = c.length + 1 by simp, un_mk1]
  have e1 : cM (c ++ [(t, e)]) c.length = some (.wt t e) := by unfold cM; rw [List.getElem?_map]; simp [wtO]
  rw [e1]
  refine fill_mono (fun m v q => ?_) t e 0 u h
  unfold gM at q
  refine un_mono (c := cM c) (fun m y e => ?_) _ m v q
  obtain ⟨z, h1, h2⟩ := cM_some e
  unfold cM
  rw [List.getElem?_map, List.getElem?_append_left (List.getElem?_eq_some_iff.mp h1).1, h1, h2]
  rfl
theorem argsT_mono2 {g h : Nat → Option Tm} (gh : ∀ n t, g n = some t → h n = some t) {a : List Nat} {t u : Tm} (q : argsT g t a = some u) : argsT h t a = some u := argsT_mono gh a t u q
theorem termM_some {m : Ms} (w : Wf m) (o : Old m.c) : ∃ T, termM m = some T := by
  have hw : ∀ x ∈ m.c, clo x.2.length x.1 = true := fun x hx => (w.c x hx).1
  obtain ⟨f, hf⟩ := fillT_some (g := gM m.c) w.h fun n hn => by
    obtain ⟨i, _, h2⟩ := (mem_ndlT w.h).mp hn
    exact gM_some o hw (w.e n (List.mem_of_getElem? h2))
  obtain ⟨T, hT⟩ := argsT_some (g := gM m.c) m.s f fun n hn => gM_some o hw (w.s n hn)
  exact ⟨T, by unfold termM; rw [hf]; exact hT⟩
theorem step_old {m m' : Ms} {x : Wd} (w : Wf m) (o : Old m.c) (h : step m = some (x, m')) : Old m'.c := by
  obtain ⟨hh, e, s, c⟩ := m
  cases hh with
  | cl t u =>
    have new : ∀ v : Tm, Old (c ++ [(v, e)]) := fun v i y hy j hj => by
      by_cases hi : i < c.length
      · rw [List.getElem?_append_left hi] at hy
        exact o i y hy j hj
      · rw [List.getElem?_append_right (by omega)] at hy
        have hi0 : i - c.length = 0 := by
          have := (List.getElem?_eq_some_iff.mp hy).1
          simp only [List.length_cons, List.length_nil] at this
          omega
        rw [hi0] at hy
        simp only [List.getElem?_cons_zero, Option.some.injEq] at hy
        subst hy
        have := w.e j hj
        dsimp only at this
        omega
    cases h
    cases u with
    | av n => exact o
    | nm l => exact new _
    | fn t => exact new _
    | cl t u => exact new _
  | fn t =>
    cases s with
    | nil => cases h
    | cons y s => cases h; exact o
  | nm l => cases h
  | av k => cases h; exact o
theorem step_term {m m' : Ms} {x : Wd} {T : Tm} (w : Wf m) (o : Old m.c) (h : step m = some (x, m')) (hT : termM m = some T) : match x with | .other => termM m' = some T | .put => ∃ T', termM m' = some T' ∧ wk T = some T' := by
  obtain ⟨hh, e, s, c⟩ := m
  unfold termM at hT
  dsimp only at hT
  cases hh with
  | cl t u =>
    have ins : ∀ c' n, (∀ k v, gM c k = some v → gM c' k = some v) → (∀ U, fill (gM c) u e 0 = some U → gM c' n = some U) → termM ⟨t, e, n :: s, c'⟩ = some T := fun c' n up hn => by
      unfold fill at hT
      cases a : fill (gM c) t e 0 with
      | none => rw [a] at hT; cases hT
      | some F =>
        cases b : fill (gM c) u e 0 with
        | none => rw [a, b] at hT; cases hT
        | some U =>
          rw [a, b] at hT
          unfold termM
          dsimp only
          rw [fill_mono up t e 0 F a]
          show argsT (gM c') F (n :: s) = some T
          unfold argsT
          rw [hn U b]
          exact argsT_mono2 up hT
    cases h
    cases u with
    | av n =>
      have wh := w.h
      simp only [clo, Bool.and_eq_true, decide_eq_true_eq] at wh
      refine ins c (e.getD n 0) (fun _ _ h => h) fun U hU => ?_
      unfold fill at hU
      rw [if_neg (by omega), Nat.sub_zero, List.getElem?_eq_getElem wh.2] at hU
      rw [List.getD_eq_getElem?_getD, List.getElem?_eq_getElem wh.2]
      exact hU
    | nm l => exact ins _ _ gM_app fun U hU => gM_new hU
    | fn v => exact ins _ _ gM_app fun U hU => gM_new hU
    | cl v z => exact ins _ _ gM_app fun U hU => gM_new hU
  | fn t =>
    cases s with
    | nil => cases h
    | cons y s =>
      cases h
      dsimp only
      unfold fill at hT
      cases a : fill (gM c) t e 1 with
      | none => rw [a] at hT; cases hT
      | some B =>
        rw [a] at hT
        have hT : argsT (gM c) (.fn B) (y :: s) = some T := hT
        unfold argsT at hT
        cases hx : gM c y with
        | none => rw [hx] at hT; cases hT
        | some X =>
          rw [hx] at hT
          obtain ⟨T', h1, h2⟩ := (wk_args (s := s) (h := .cl (.fn B) X) (fun b e => by cases e) hT).2 (put B X 0) rfl
          refine ⟨T', ?_, h2⟩
          unfold termM
          dsimp only
          rw [fill_put gM_cl0 hx a]
          exact h1
  | nm l => cases h
  | av k =>
    have wh := w.h
    simp only [clo, decide_eq_true_eq] at wh
    have hx : e[k] < c.length := w.e _ (List.getElem_mem wh)
    have e1 : c.getD (e.getD k 0) (.av 0, []) = c[e[k]] := by simp only [List.getD_eq_getElem?_getD, List.getElem?_eq_getElem wh, List.getElem?_eq_getElem hx, Option.getD_some]
    simp only [step, e1] at h
    cases h
    dsimp only
    unfold fill at hT
    rw [if_neg (by omega), Nat.sub_zero, List.getElem?_eq_getElem wh] at hT
    have hT : (gM c e[k]).bind (fun f => argsT (gM c) f s) = some T := hT
    cases hu : gM c e[k] with
    | none => rw [hu] at hT; cases hT
    | some U =>
      rw [hu] at hT
      unfold termM
      dsimp only
      rw [gM_at (List.getElem?_eq_getElem hx) hu]
      exact hT
theorem step_end {m : Ms} {T : Tm} (w : Wf m) (h : step m = none) (hT : termM m = some T) : wk T = none := by
  obtain ⟨hh, e, s, c⟩ := m
  unfold termM at hT
  dsimp only at hT
  cases hh with
  | cl t u => cases h
  | av k =>
    simp only [step] at h
    cases h
  | nm l =>
    have hT : argsT (gM c) (.nm l) s = some T := hT
    exact (wk_args (s := s) (h := .nm l) (fun b e => by cases e) hT).1 rfl
  | fn t =>
    cases s with
    | cons y s => cases h
    | nil =>
      unfold fill at hT
      cases a : fill (gM c) t e 1 with
      | none => rw [a] at hT; cases hT
      | some B =>
        rw [a] at hT
        have hT : argsT (gM c) (.fn B) [] = some T := hT
        cases hT
        rfl
theorem argsT_sz {g : Nat → Option Tm} : ∀ {s : List Nat} {h T : Tm}, argsT g h s = some T → s.length + sz h ≤ sz T
  | [], h, T, q => by cases q; simp
  | n :: s, h, T, q => by
    unfold argsT at q
    cases x : g n with
    | none => rw [x] at q; cases q
    | some v =>
      rw [x] at q
      have := argsT_sz q
      simp only [sz] at this
      simp only [List.length_cons]
      omega
/-- the stack is no longer than the term -/
theorem termM_stack {m : Ms} {T : Tm} (hT : termM m = some T) : m.s.length ≤ sz T := by
  unfold termM at hT
  cases a : fill (gM m.c) m.h m.e 0 with
  | none => rw [a] at hT; cases hT
  | some f =>
    rw [a] at hT
    have := argsT_sz (g := gM m.c) hT
    omega
/-! ### bounds of parts; counting -/
def Db1 (D : Nat) (t : Tm) (e : List Nat) : Prop := e.length + dp t ≤ D ∧ sz t ≤ 90000
def isV : Tm → Bool
  | .av _ => true
  | _ => false
structure Db (D : Nat) (m : Ms) : Prop where
  h : Db1 D m.h m.e
  c : ∀ x ∈ m.c, Db1 D x.1 x.2 ∧ isV x.1 = false
theorem step_db {D : Nat} {m m' : Ms} {x : Wd} (w : Wf m) (b : Db D m) (h : step m = some (x, m')) : Db D m' := by
  obtain ⟨hh, e, s, c⟩ := m
  obtain ⟨⟨b1, b2⟩, b3⟩ := b
  dsimp only at b1 b2 b3
  cases hh with
  | cl t u =>
    simp only [dp, sz] at b1 b2
    have new : ∀ v : Tm, Db1 D v e → isV v = false → ∀ x ∈ c ++ [(v, e)], Db1 D x.1 x.2 ∧ isV x.1 = false := fun v hv hi x hx => by
      rcases List.mem_append.mp hx with hx | hx
      · exact b3 x hx
      · rw [List.mem_singleton.mp hx]; exact ⟨hv, hi⟩
    have hu : Db1 D u e := ⟨by omega, by omega⟩
    cases h
    refine ⟨⟨by dsimp only; omega, by dsimp only; omega⟩, ?_⟩
    cases u with
    | av n => exact b3
    | nm l => exact new _ hu rfl
    | fn t => exact new _ hu rfl
    | cl t u => exact new _ hu rfl
  | fn t =>
    simp only [dp, sz] at b1 b2
    cases s with
    | nil => cases h
    | cons y s => cases h; exact ⟨⟨by simp only [List.length_cons]; omega, by dsimp only; omega⟩, b3⟩
  | nm l => cases h
  | av k =>
    have wh := w.h
    simp only [clo, decide_eq_true_eq] at wh
    have hx : e[k] < c.length := w.e _ (List.getElem_mem wh)
    have e1 : c.getD (e.getD k 0) (.av 0, []) = c[e[k]] := by simp only [List.getD_eq_getElem?_getD, List.getElem?_eq_getElem wh, List.getElem?_eq_getElem hx, Option.getD_some]
    simp only [step, e1] at h
    cases h
    exact ⟨(b3 _ (List.getElem_mem hx)).1, b3⟩
def vN (t : Tm) : Nat := if isV t = true then 1 else 0
/-- steps are no more than twice the calls and the puts -/
theorem step_cnt {D : Nat} {m m' : Ms} {x : Wd} {n p : Nat} (w : Wf m) (b : Db D m) (h : step m = some (x, m')) (hn : n + vN m.h ≤ 2 * (m.s.length + 2 * p) + 1) : n + 1 + vN m'.h ≤ 2 * (m'.s.length + 2 * (p + wdN x)) + 1 := by
  have v1 : ∀ t, vN t ≤ 1 := fun t => by unfold vN; split <;> omega
  obtain ⟨hh, e, s, c⟩ := m
  cases hh with
  | cl t u =>
    cases h
    have := v1 t
    simp only [vN, isV, List.length_cons, wdN] at *
    omega
  | fn t =>
    cases s with
    | nil => cases h
    | cons y s =>
      cases h
      have := v1 t
      simp only [vN, isV, List.length_cons, wdN] at *
      omega
  | nm l => cases h
  | av k =>
    have wh := w.h
    simp only [clo, decide_eq_true_eq] at wh
    have hx : e[k] < c.length := w.e _ (List.getElem_mem wh)
    have e1 : c.getD (e.getD k 0) (.av 0, []) = c[e[k]] := by simp only [List.getD_eq_getElem?_getD, List.getElem?_eq_getElem wh, List.getElem?_eq_getElem hx, Option.getD_some]
    simp only [step, e1] at h
    cases h
    have hv := (b.c _ (List.getElem_mem hx)).2
    have e2 : vN (.av k) = 1 := rfl
    have e3 : vN c[e[k]].1 = 0 := by unfold vN; rw [hv]; rfl
    dsimp only at hn ⊢
    simp only [wdN]
    rw [e2] at hn
    rw [e3]
    omega
/-- what holds along a run -/
structure Rn (D : Nat) (m : Ms) (n p : Nat) : Prop where
  w : Wf m
  o : Old m.c
  b : Db D m
  k : Bd n m
  c : n + vN m.h ≤ 2 * (m.s.length + 2 * p) + 1
theorem Rn.begin {D : Nat} {t : Tm} (hg : good t = true) (hc : clo 0 t = true) (hd : dp t ≤ D) (hz : sz t ≤ 90000) : Rn D (m0 t) 0 0 := by
  refine ⟨⟨hc, hg, fun _ h => (by cases h), fun _ h => (by cases h), fun _ h => (by cases h)⟩, fun i x h => (by cases h), ⟨⟨by simpa [m0] using hd, hz⟩, fun x h => (by cases h)⟩, ⟨Nat.le_refl _, Nat.le_refl _, Nat.le_refl _, fun _ h => (by cases h)⟩, ?_⟩
  have : isV (m0 t).h = false := by
    cases t with
    | av k => simp [clo] at hc
    | nm l => rfl
    | fn t => rfl
    | cl t u => rfl
  have v0 : vN (m0 t).h = 0 := by unfold vN; rw [this]; rfl
  rw [v0]
  exact Nat.zero_le _
theorem Rn.next {D : Nat} {m m' : Ms} {n p : Nat} {x : Wd} (r : Rn D m n p) (h : step m = some (x, m')) : Rn D m' (n + 1) (p + wdN x) :=
  ⟨step_wf r.w h, step_old r.w r.o h, step_db r.w r.b h, step_bd r.w r.k h, step_cnt r.w r.b h r.c⟩
end Mini
end L2
/-! Mini, part Va: the machine by value goes as steps by value do -/
namespace L2
namespace Mini
open PySem PySem.Spec PyProof.Rows
/-! ### steps by value -/
def wv : Tm → Option Tm
  | .cl f x => match wv f with
    | some f1 => some (.cl f1 x)
    | none => match wv x with
      | some x1 => some (.cl f x1)
      | none => match f with
        | .fn b => some (put b x 0)
        | _ => none
  | _ => none
theorem wv_fst {f f1 x : Tm} (h : wv f = some f1) : wv (.cl f x) = some (.cl f1 x) := by simp only [wv, h]
theorem wv_snd {f x x1 : Tm} (h : wv f = none) (g : wv x = some x1) : wv (.cl f x) = some (.cl f x1) := by simp only [wv, h, g]
theorem wv_put {b x : Tm} (g : wv x = none) : wv (.cl (.fn b) x) = some (put b x 0) := by simp only [wv, g]
theorem wv_no {f x : Tm} (h : wv f = none) (g : wv x = none) (hf : ∀ b, f ≠ .fn b) : wv (.cl f x) = none := by
  cases f with
  | fn b => exact absurd rfl (hf b)
  | av j => simp only [wv, g]
  | nm w => simp only [wv, g]
  | cl a b => simp only [wv] at h; simp only [wv, h, g]
/-! ### states -/
inductive Lv where | tm (t : Tm) (e : List Nat) | ce (n : Nat)
inductive Fr where | ar (t : Tm) (e : List Nat) | ca (n : Nat)
structure Vs where
  k : Lv
  f : List Fr
  c : List Cx
abbrev sCe : D := .str [99, 101, 108, 108]
abbrev sAr : D := .str [97, 114, 103, 117, 109, 101, 110, 116]
abbrev sBv : D := .str [98, 121, 32, 118, 97, 108, 117, 101]
/-- a cell as a value: its head is a name -/
def vxD : Cx → D
  | .wt t e => .tup [sWt, enc t, nts e]
  | .fc t e => .tup [sFn, enc t, nts e]
  | .sk l a => .tup [sSk, .str l, nts a]
  | .ct t => .tup [sWt, enc t, .tup []]
def lvD : Lv → D
  | .tm t e => .tup [sTm, enc t, nts e]
  | .ce n => .tup [sCe, .int (n : Int)]
def frD : Fr → D
  | .ar t e => .tup [sAr, enc t, nts e]
  | .ca n => .tup [sCl, .int (n : Int)]
def vsD (m : Vs) : D := .tup [sBv, lvD m.k, .tup (m.f.map frD), .tup (m.c.map vxD)]
/-- the cell that is called -/
def vcall (x : Cx) (n : Nat) (f : List Fr) (c : List Cx) : Option (Wd × Vs) := match x with
  | .sk l a => some (.other, ⟨.ce c.length, f, c ++ [.sk l (a ++ [n])]⟩)
  | .fc t e => some (.put, ⟨.tm t (n :: e), f, c⟩)
  | _ => none
def vstep : Vs → Option (Wd × Vs)
  | ⟨.tm (.av k) e, f, c⟩ => some (.other, ⟨.ce (e.getD k 0), f, c⟩)
  | ⟨.tm (.nm l) e, f, c⟩ => some (.other, ⟨.ce c.length, f, c ++ [.sk l []]⟩)
  | ⟨.tm (.fn t) e, f, c⟩ => some (.other, ⟨.ce c.length, f, c ++ [.fc t e]⟩)
  | ⟨.tm (.cl t u) e, f, c⟩ => some (.other, ⟨.tm t e, .ar u e :: f, c⟩)
  | ⟨.ce n, .ar t e :: f, c⟩ => some (.other, ⟨.tm t e, .ca n :: f, c⟩)
  | ⟨.ce n, .ca m :: f, c⟩ => match c[m]? with
    | some x => vcall x n f c
    | none => none
  | ⟨.ce _, [], _⟩ => none
/-! ### what holds along a run -/
/-- a part with its surroundings -/
def Pb (D N : Nat) (t : Tm) (e : List Nat) : Prop := clo e.length t = true ∧ good t = true ∧ e.length + dp t ≤ D ∧ sz t ≤ 90000 ∧ ∀ n ∈ e, n < N
theorem Pb.mono {D N N' : Nat} {t : Tm} {e : List Nat} (h : Pb D N t e) (q : N ≤ N') : Pb D N' t e := ⟨h.1, h.2.1, h.2.2.1, h.2.2.2.1, fun n hn => Nat.lt_of_lt_of_le (h.2.2.2.2 n hn) q⟩
def kb (D N : Nat) : Lv → Prop
  | .tm t e => Pb D N t e
  | .ce n => n < N
/-- how many are called with -/
def na : Cx → Nat
  | .sk _ a => a.length
  | _ => 0
def fb (D n : Nat) (c : List Cx) : Fr → Prop
  | .ar t e => Pb D c.length t e
  | .ca i => ∃ x, c[i]? = some x ∧ 3 * na x + 1 ≤ n
def vb (D i L : Nat) : Cx → Prop
  | .fc t e => Pb D i (.fn t) e
  | .sk l a => nameB l = true ∧ 3 * a.length ≤ L ∧ ∀ n ∈ a, n < i
  | _ => False
structure Vw (D n : Nat) (m : Vs) : Prop where
  k : kb D m.c.length m.k
  f : ∀ x ∈ m.f, fb D n m.c x
  t : ∀ j i f' x, m.k = .ce j → m.f = .ca i :: f' → m.c[i]? = some x → 3 * na x + 2 ≤ n
  c : ∀ (i : Nat) (x : Cx), m.c[i]? = some x → vb D i n x
  lf : m.f.length ≤ n
  lc : m.c.length ≤ n
theorem kb.mono {D N N' : Nat} {x : Lv} (h : kb D N x) (q : N ≤ N') : kb D N' x := by
  cases x with
  | tm t e => exact Pb.mono h q
  | ce n => exact Nat.lt_of_lt_of_le h q
theorem fb.up {D n n' : Nat} {c : List Cx} {x : Fr} (h : fb D n c x) (q : n ≤ n') : fb D n' c x := by
  cases x with
  | ar t e => exact h
  | ca i => obtain ⟨x, h1, h2⟩ := h; exact ⟨x, h1, by omega⟩
theorem fb.app {D n : Nat} {c : List Cx} {y : Cx} {x : Fr} (h : fb D n c x) : fb D n (c ++ [y]) x := by
  cases x with
  | ar t e => exact Pb.mono h (by simp)
  | ca i => obtain ⟨x, h1, h2⟩ := h; exact ⟨x, by rw [List.getElem?_append_left (List.getElem?_eq_some_iff.mp h1).1]; exact h1, h2⟩
theorem vb.mono {D i L L' : Nat} {x : Cx} (h : vb D i L x) (q : L ≤ L') : vb D i L' x := by
  cases x with
  | fc t e => exact h
  | sk l a => exact ⟨h.1, Nat.le_trans h.2.1 q, h.2.2⟩
  | wt t e => exact h
  | ct t => exact h
theorem Vw.begin {D : Nat} {t : Tm} (hg : good t = true) (hc : clo 0 t = true) (hd : dp t ≤ D) (hz : sz t ≤ 90000) : Vw D 0 ⟨.tm t [], [], []⟩ :=
  ⟨⟨hc, hg, by simpa using hd, hz, fun _ h => (by cases h)⟩, fun _ h => (by cases h), fun _ _ _ _ h => (by cases h), fun i x h => (by cases h), Nat.le_refl _, Nat.le_refl _⟩
theorem top_ok {D n : Nat} {c : List Cx} {f : List Fr} (hf : ∀ y ∈ f, fb D n c y) : ∀ i f' x, f = .ca i :: f' → c[i]? = some x → 3 * na x + 2 ≤ n + 1 := fun i f' x e hx => by
  obtain ⟨y, h1, h2⟩ := hf (.ca i) (by rw [e]; exact List.mem_cons_self)
  rw [hx] at h1
  cases h1
  omega
theorem Vw.snoc {D n : Nat} {m : Vs} {x : Cx} {f : List Fr} (w : Vw D n m) (hf : ∀ y ∈ f, fb D n m.c y) (lf : f.length ≤ n + 1) (hx : vb D m.c.length (n + 1) x) : Vw D (n + 1) ⟨.ce m.c.length, f, m.c ++ [x]⟩ := by
  have hl : (m.c ++ [x]).length = m.c.length + 1 := by simp
  refine ⟨by show m.c.length < (m.c ++ [x]).length; omega, fun y hy => ((hf y hy).up (Nat.le_succ _)).app, fun j i f' z _ e hz => ?_, fun i y hy => ?_, lf, by have := w.lc; dsimp only; omega⟩
  · dsimp only at e hz
    obtain ⟨y, h1, h2⟩ := hf (.ca i) (by rw [e]; exact List.mem_cons_self)
    rw [List.getElem?_append_left (List.getElem?_eq_some_iff.mp h1).1] at hz
    rw [hz] at h1
    cases h1
    omega
  by_cases hi : i < m.c.length
  · rw [List.getElem?_append_left hi] at hy
    exact (w.c i y hy).mono (Nat.le_succ _)
  · have hi2 := (List.getElem?_eq_some_iff.mp hy).1
    dsimp only at hi2
    rw [hl] at hi2
    have : i = m.c.length := by omega
    subst this
    dsimp only at hy
    rw [List.getElem?_append_right (Nat.le_refl _), Nat.sub_self] at hy
    simp only [List.getElem?_cons_zero, Option.some.injEq] at hy
    rw [← hy]
    exact hx
theorem vstep_ok {D n : Nat} {m m' : Vs} {x : Wd} (w : Vw D n m) (h : vstep m = some (x, m')) : Vw D (n + 1) m' := by
  have lf := w.lf
  have lc := w.lc
  have wf := w.f
  have wt := w.t
  have wf' : ∀ x ∈ m.f, fb D (n + 1) m.c x := fun x hx => (w.f x hx).up (Nat.le_succ _)
  have wc : ∀ (i : Nat) (x : Cx), m.c[i]? = some x → vb D i (n + 1) x := fun i x h => (w.c i x h).mono (Nat.le_succ _)
  obtain ⟨k, f, c⟩ := m
  dsimp only at lf lc wf wt
  cases k with
  | tm t e =>
    obtain ⟨h1, h2, h3, h4, h5⟩ := w.k
    dsimp only at h5
    cases t with
    | av k =>
      cases h
      simp only [clo, decide_eq_true_eq] at h1
      refine ⟨?_, wf', fun j i f' x _ e hx => top_ok wf i f' x e hx, wc, by dsimp only; omega, by dsimp only; omega⟩
      show e.getD k 0 < c.length
      rw [List.getD_eq_getElem?_getD, List.getElem?_eq_getElem h1]
      exact h5 _ (List.getElem_mem h1)
    | nm l =>
      cases h
      exact w.snoc (x := .sk l []) wf (by omega) ⟨h2, Nat.zero_le _, fun _ h => (by cases h)⟩
    | fn t =>
      cases h
      exact w.snoc (x := .fc t e) wf (by omega) ⟨h1, h2, h3, h4, h5⟩
    | cl t u =>
      cases h
      simp only [clo, good, Bool.and_eq_true, dp, sz] at h1 h2 h3 h4
      refine ⟨⟨h1.1, h2.1, by omega, by omega, h5⟩, fun y hy => ?_, fun j i f' x hh _ _ => (by cases hh), wc, by simp only [List.length_cons]; omega, by dsimp only; omega⟩
      rcases List.mem_cons.mp hy with rfl | hy
      · exact ⟨h1.2, h2.2, by omega, by omega, h5⟩
      · exact wf' y hy
  | ce j =>
    have hj : j < c.length := w.k
    cases f with
    | nil => cases h
    | cons y f =>
      have hf : ∀ y ∈ f, fb D n c y := fun y hy => wf y (List.mem_cons_of_mem _ hy)
      have hf' : ∀ y ∈ f, fb D (n + 1) c y := fun y hy => wf' y (List.mem_cons_of_mem _ hy)
      have hy := wf y List.mem_cons_self
      simp only [List.length_cons] at lf
      cases y with
      | ar t e =>
        cases h
        refine ⟨hy, fun y hy => ?_, fun j i f' x hh _ _ => (by cases hh), wc, by simp only [List.length_cons]; omega, by dsimp only; omega⟩
        rcases List.mem_cons.mp hy with rfl | hy
        · refine ⟨c[j], List.getElem?_eq_getElem hj, ?_⟩
          have := w.c j c[j] (List.getElem?_eq_getElem hj)
          cases e : c[j] with
          | sk l a => rw [e] at this; have := this.2.1; simp only [na]; omega
          | fc t e => simp only [na]; omega
          | wt t e => simp only [na]; omega
          | ct t => simp only [na]; omega
        · exact hf' y hy
      | ca i =>
        obtain ⟨x0, hx0, _⟩ := hy
        have hi := (List.getElem?_eq_some_iff.mp hx0).1
        have ht := wt j i f x0 rfl rfl hx0
        simp only [vstep, hx0] at h
        have hx := w.c i x0 hx0
        cases x0 with
        | wt t e' => cases hx
        | ct t => cases hx
        | sk l a =>
          cases h
          simp only [na] at ht
          refine w.snoc (x := .sk l (a ++ [j])) hf (by omega) ⟨hx.1, by simp only [List.length_append, List.length_cons, List.length_nil]; omega, fun z hz => ?_⟩
          rcases List.mem_append.mp hz with hz | hz
          · exact Nat.lt_trans (hx.2.2 z hz) hi
          · rw [List.mem_singleton.mp hz]; exact hj
        | fc t e' =>
          cases h
          obtain ⟨g1, g2, g3, g4, g5⟩ := hx
          simp only [dp, sz] at g3 g4
          refine ⟨⟨g1, g2, by simp only [List.length_cons]; omega, by omega, fun z hz => ?_⟩, hf', fun j i f' x hh _ _ => (by cases hh), wc, by dsimp only; omega, by dsimp only; omega⟩
          rcases List.mem_cons.mp hz with rfl | hz
          · exact hj
          · exact Nat.lt_trans (g5 z hz) hi
theorem Vw.ca {D n : Nat} {m : Vs} (w : Vw D n m) {i : Nat} (h : Fr.ca i ∈ m.f) : i < m.c.length := by
  obtain ⟨x, hx, _⟩ := w.f _ h
  exact (List.getElem?_eq_some_iff.mp hx).1
/-! ### the term of a state -/
def vM (c : List Cx) : Ctx := fun n => c[n]?
def vG (c : List Cx) : Nat → Option Tm := un c.length (vM c)
def lvT (g : Nat → Option Tm) : Lv → Option Tm
  | .tm t e => fill g t e 0
  | .ce n => g n
def frT (g : Nat → Option Tm) : Tm → List Fr → Option Tm
  | T, [] => some T
  | T, .ar t e :: f => match fill g t e 0 with
    | some U => frT g (.cl T U) f
    | none => none
  | T, .ca n :: f => match g n with
    | some F => frT g (.cl F T) f
    | none => none
def termV (m : Vs) : Option Tm := (lvT (vG m.c) m.k).bind fun T => frT (vG m.c) T m.f
/-- cells hold functions and what is stuck, needing older ones alone -/
structure Vc (D n : Nat) (c : List Cx) : Prop where
  c : ∀ (i : Nat) (x : Cx), c[i]? = some x → vb D i n x
theorem vG_cl0 {D n : Nat} {c : List Cx} (h : Vc D n c) : ∀ n u, vG c n = some u → clo 0 u = true := fun m u q => un_cl0 (c := vM c) (fun n t e => by
  have := h.c n _ e
  cases this) _ m u q
theorem vb.cw {D i L : Nat} {x : Cx} (h : vb D i L x) : Mini.cw x = true := by
  cases x with
  | fc t e => exact h.1
  | sk l a => rfl
  | wt t e => cases h
  | ct t => cases h
theorem vb.ndl {D i L : Nat} {x : Cx} (h : vb D i L x) : ∀ m ∈ Mini.ndl x, m < i := by
  cases x with
  | fc t e =>
    intro m hm
    obtain ⟨j, _, h2⟩ := (mem_ndlT (t := .fn t) h.1).mp hm
    exact h.2.2.2.2 m (List.mem_of_getElem? h2)
  | sk l a => exact h.2.2
  | wt t e => cases h
  | ct t => cases h
theorem vM_ac {D n : Nat} {c : List Cx} (h : Vc D n c) : ∀ i, i < c.length → Ac (vM c) i := by
  intro i
  induction i using Nat.strongRecOn with
  | _ i ih =>
    intro hi
    refine .mk (x := c[i]) (List.getElem?_eq_getElem hi) fun m hm => ?_
    have := (h.c i c[i] (List.getElem?_eq_getElem hi)).ndl m hm
    exact ih m this (by omega)
theorem vG_some {D n : Nat} {c : List Cx} (h : Vc D n c) {i : Nat} (hi : i < c.length) : ∃ u, vG c i = some u := by
  refine (vM_ac h i hi).un (L := List.range c.length) (by rw [List.length_range]; exact Nat.le_refl _) (fun n hn => ?_) (fun n x e => (h.c n x e).cw)
  obtain ⟨x, hx⟩ := Option.ne_none_iff_exists'.mp hn
  exact List.mem_range.mpr (List.getElem?_eq_some_iff.mp hx).1
theorem vM_app {c : List Cx} {x : Cx} : ∀ n y, vM c n = some y → vM (c ++ [x]) n = some y := fun n y h => by
  unfold vM at *
  rw [List.getElem?_append_left (List.getElem?_eq_some_iff.mp h).1, h]
theorem vG_app {c : List Cx} {x : Cx} : ∀ n u, vG c n = some u → vG (c ++ [x]) n = some u := fun n u h => by
  unfold vG at *
  exact un_le (j := c.length) (by simp) (un_mono vM_app _ n u h)
theorem vG_new {c : List Cx} {x : Cx} {u : Tm} (h : mk1 (vG c) x = some u) : vG (c ++ [x]) c.length = some u := by
  unfold vG
  rw [show (c ++ [x]).length = c.length + 1 by simp, un_mk1]
  have e1 : vM (c ++ [x]) c.length = some x := by unfold vM; simp
  rw [e1]
  refine mk1_mono (fun m v q => ?_) h
  unfold vG at q
  exact un_mono vM_app _ m v q
theorem vG_at {c : List Cx} {n : Nat} {x : Cx} {u : Tm} (hx : c[n]? = some x) (h : vG c n = some u) : mk1 (vG c) x = some u := by
  unfold vG at h
  cases hl : c.length with
  | zero => rw [hl] at h; cases h
  | succ k =>
    rw [hl] at h
    rw [un_mk1] at h
    have e : vM c n = some x := hx
    rw [e] at h
    unfold vG
    rw [hl]
    exact mk1_mono (fun m t q => un_succ k _ m t q) h
/-- what is stuck stays -/
theorem wv_args {g : Nat → Option Tm} (hg : ∀ n u, g n = some u → wv u = none) : ∀ {a : List Nat} {h T : Tm}, wv h = none → (∀ b, h ≠ .fn b) → argsT g h a = some T → wv T = none ∧ ∀ b, T ≠ .fn b
  | [], h, T, h1, h2, q => by cases q; exact ⟨h1, h2⟩
  | n :: a, h, T, h1, h2, q => by
    unfold argsT at q
    cases x : g n with
    | none => rw [x] at q; cases q
    | some v =>
      rw [x] at q
      exact wv_args hg (a := a) (h := .cl h v) (wv_no h1 (hg n v x) h2) (fun b e => by cases e) q
theorem fill_fn {g : Nat → Option Tm} {b : Tm} {e : List Nat} {T : Tm} (q : fill g (.fn b) e 0 = some T) : ∃ B, fill g b e 1 = some B ∧ T = .fn B := by
  unfold fill at q
  cases a : fill g b e 1 with
  | none => rw [a] at q; cases q
  | some B => rw [a] at q; cases q; exact ⟨B, rfl, rfl⟩
theorem un_wv {c : Ctx} (hc : ∀ n x, c n = some x → (∃ t e, x = .fc t e) ∨ ∃ l a, x = .sk l a) : ∀ (k n : Nat) (T : Tm), un k c n = some T → wv T = none
  | 0, _, _, h => by cases h
  | k + 1, n, T, h => by
    have g := un_wv hc k
    unfold un at h
    cases e : c n with
    | none => rw [e] at h; cases h
    | some x =>
      rw [e] at h
      rcases hc n x e with ⟨t, e', rfl⟩ | ⟨l, a, rfl⟩
      · obtain ⟨B, _, rfl⟩ := fill_fn h
        rfl
      · exact (wv_args g (h := .nm l) rfl (fun b e => by cases e) h).1
theorem vG_wv {D n : Nat} {c : List Cx} (h : Vc D n c) : ∀ n u, vG c n = some u → wv u = none := fun m u q => un_wv (fun n x e => by
  have := h.c n x e
  cases x with
  | fc t e' => exact .inl ⟨t, e', rfl⟩
  | sk l a => exact .inr ⟨l, a, rfl⟩
  | wt t e => cases this
  | ct t => cases this) _ m u q
/-- a step goes through what is around -/
theorem frT_step {g : Nat → Option Tm} (hg : ∀ n u, g n = some u → wv u = none) : ∀ {f : List Fr} {T T1 U : Tm}, wv T = some T1 → frT g T f = some U → ∃ U1, frT g T1 f = some U1 ∧ wv U = some U1
  | [], T, T1, U, h, q => by cases q; exact ⟨T1, rfl, h⟩
  | .ar t e :: f, T, T1, U, h, q => by
    unfold frT at q ⊢
    cases a : fill g t e 0 with
    | none => rw [a] at q; cases q
    | some V =>
      rw [a] at q
      exact frT_step hg (f := f) (wv_fst h) q
  | .ca n :: f, T, T1, U, h, q => by
    unfold frT at q ⊢
    cases a : g n with
    | none => rw [a] at q; cases q
    | some F =>
      rw [a] at q
      exact frT_step hg (f := f) (wv_snd (hg n F a) h) q
theorem frT_mono {g h : Nat → Option Tm} (gh : ∀ n t, g n = some t → h n = some t) : ∀ {f : List Fr} {T U : Tm}, frT g T f = some U → frT h T f = some U
  | [], T, U, q => q
  | .ar t e :: f, T, U, q => by
    unfold frT at q ⊢
    cases a : fill g t e 0 with
    | none => rw [a] at q; cases q
    | some V =>
      rw [a] at q
      rw [fill_mono gh t e 0 V a]
      exact frT_mono gh (f := f) q
  | .ca n :: f, T, U, q => by
    unfold frT at q ⊢
    cases a : g n with
    | none => rw [a] at q; cases q
    | some F =>
      rw [a] at q
      rw [gh n F a]
      exact frT_mono gh (f := f) q
theorem argsT_snoc {g : Nat → Option Tm} {n : Nat} {v : Tm} (hv : g n = some v) : ∀ {a : List Nat} {h T : Tm}, argsT g h a = some T → argsT g h (a ++ [n]) = some (.cl T v)
  | [], h, T, q => by cases q; simp only [List.nil_append, argsT, hv]
  | m :: a, h, T, q => by
    unfold argsT at q
    cases x : g m with
    | none => rw [x] at q; cases q
    | some w =>
      rw [x] at q
      rw [List.cons_append]
      unfold argsT
      rw [x]
      exact argsT_snoc hv q
theorem fill_av {g : Nat → Option Tm} {k : Nat} {e : List Nat} (hk : k < e.length) : fill g (.av k) e 0 = g e[k] := by
  unfold fill
  rw [if_neg (Nat.not_lt_zero k), Nat.sub_zero, List.getElem?_eq_getElem hk]
theorem vstep_term {D n : Nat} {m m' : Vs} {x : Wd} {T : Tm} (w : Vw D n m) (h : vstep m = some (x, m')) (hT : termV m = some T) : match x with | .other => termV m' = some T | .put => ∃ T', termV m' = some T' ∧ wv T = some T' := by
  have vc : Vc D n m.c := ⟨w.c⟩
  obtain ⟨k, f, c⟩ := m
  unfold termV at hT
  dsimp only at hT vc
  -- a new cell
  have new : ∀ (y : Cx) (U : Tm), mk1 (vG c) y = some U → frT (vG c) U f = some T → termV ⟨.ce c.length, f, c ++ [y]⟩ = some T := fun y U h1 h2 => by
    unfold termV
    dsimp only [lvT]
    rw [vG_new h1]
    exact frT_mono vG_app h2
  cases k with
  | tm t e =>
    obtain ⟨h1, h2, h3, h4, h5⟩ := w.k
    dsimp only [lvT] at hT
    cases t with
    | av k =>
      simp only [clo, decide_eq_true_eq] at h1
      cases h
      rw [fill_av h1] at hT
      unfold termV
      dsimp only [lvT]
      rw [List.getD_eq_getElem?_getD, List.getElem?_eq_getElem h1]
      exact hT
    | nm l => cases h; exact new (.sk l []) (.nm l) rfl hT
    | fn t =>
      cases h
      cases a : fill (vG c) (.fn t) e 0 with
      | none => rw [a] at hT; cases hT
      | some U => rw [a] at hT; exact new (.fc t e) U a hT
    | cl t u =>
      cases h
      unfold fill at hT
      cases a : fill (vG c) t e 0 with
      | none => rw [a] at hT; cases hT
      | some F =>
        cases b : fill (vG c) u e 0 with
        | none => rw [a, b] at hT; cases hT
        | some U =>
          rw [a, b] at hT
          show termV ⟨.tm t e, .ar u e :: f, c⟩ = some T
          unfold termV
          dsimp only [lvT]
          rw [a]
          show frT (vG c) F (.ar u e :: f) = some T
          unfold frT
          rw [b]
          exact hT
  | ce j =>
    dsimp only [lvT] at hT
    cases hG : vG c j with
    | none => rw [hG] at hT; cases hT
    | some V =>
      rw [hG] at hT
      have hT : frT (vG c) V f = some T := hT
      cases f with
      | nil => cases h
      | cons y f =>
        cases y with
        | ar t e =>
          cases h
          unfold frT at hT
          cases b : fill (vG c) t e 0 with
          | none => rw [b] at hT; cases hT
          | some U =>
            rw [b] at hT
            show termV ⟨.tm t e, .ca j :: f, c⟩ = some T
            unfold termV
            dsimp only [lvT]
            rw [b]
            show frT (vG c) U (.ca j :: f) = some T
            unfold frT
            rw [hG]
            exact hT
        | ca i =>
          have hi : i < c.length := w.ca (i := i) List.mem_cons_self
          unfold frT at hT
          cases hF : vG c i with
          | none => rw [hF] at hT; cases hT
          | some F =>
            rw [hF] at hT
            simp only [vstep, List.getElem?_eq_getElem hi] at h
            have hx := vc.c i c[i] (List.getElem?_eq_getElem hi)
            have hm := vG_at (List.getElem?_eq_getElem hi) hF
            cases e : c[i] with
            | wt t e' => rw [e] at hx; cases hx
            | ct t => rw [e] at hx; cases hx
            | sk l a =>
              rw [e] at h hm
              cases h
              have h2 : mk1 (vG c) (.sk l (a ++ [j])) = some (.cl F V) := argsT_snoc hG hm
              show termV ⟨.ce c.length, f, c ++ [.sk l (a ++ [j])]⟩ = some T
              unfold termV
              dsimp only [lvT]
              rw [vG_new h2]
              exact frT_mono vG_app hT
            | fc t e' =>
              rw [e] at h hm
              cases h
              obtain ⟨B, hB, rfl⟩ := fill_fn hm
              obtain ⟨T1, g1, g2⟩ := frT_step (vG_wv vc) (wv_put (b := B) (vG_wv vc j V hG)) hT
              refine ⟨T1, ?_, g2⟩
              unfold termV
              dsimp only [lvT]
              rw [fill_put (vG_cl0 vc) hG hB]
              exact g1
theorem vstep_end {D n : Nat} {m : Vs} {T : Tm} (w : Vw D n m) (h : vstep m = none) (hT : termV m = some T) : wv T = none ∧ ∃ j, m.k = .ce j ∧ m.f = [] := by
  have vc : Vc D n m.c := ⟨w.c⟩
  obtain ⟨k, f, c⟩ := m
  unfold termV at hT
  dsimp only at hT vc
  cases k with
  | tm t e => cases t <;> cases h
  | ce j =>
    cases f with
    | nil =>
      dsimp only [lvT] at hT
      cases hG : vG c j with
      | none => rw [hG] at hT; cases hT
      | some V =>
        rw [hG] at hT
        have hT : frT (vG c) V [] = some T := hT
        cases hT
        exact ⟨vG_wv vc j _ hG, j, rfl, rfl⟩
    | cons y f =>
      cases y with
      | ar t e => cases h
      | ca i =>
        have hi : i < c.length := w.ca (i := i) List.mem_cons_self
        simp only [vstep, List.getElem?_eq_getElem hi] at h
        have hx := vc.c i c[i] (List.getElem?_eq_getElem hi)
        cases e : c[i] with
        | wt t e' => rw [e] at hx; cases hx
        | ct t => rw [e] at hx; cases hx
        | sk l a => rw [e] at h; cases h
        | fc t e' => rw [e] at h; cases h
theorem fillP_some {D N : Nat} {n : Nat} {c : List Cx} (vc : Vc D n c) {t : Tm} {e : List Nat} (h : Pb D c.length t e) : ∃ u, fill (vG c) t e 0 = some u :=
  fillT_some h.1 fun m hm => by
    obtain ⟨i, _, h2⟩ := (mem_ndlT h.1).mp hm
    exact vG_some vc (h.2.2.2.2 m (List.mem_of_getElem? h2))
/-! ### a step keeps goodness; its size -/
theorem wv_good : ∀ {t t1 : Tm}, wv t = some t1 → good t = true → good t1 = true
  | .cl f x, t1, h, g => by
    simp only [good, Bool.and_eq_true] at g
    cases e : wv f with
    | some f1 => rw [wv_fst e] at h; cases h; simp [good, wv_good e g.1, g.2]
    | none =>
      cases e2 : wv x with
      | some x1 => rw [wv_snd e e2] at h; cases h; simp [good, wv_good e2 g.2, g.1]
      | none =>
        cases f with
        | fn b => rw [wv_put e2] at h; cases h; exact put_good g.1 g.2
        | av j => rw [wv_no e e2 fun b e => by cases e] at h; cases h
        | nm w => rw [wv_no e e2 fun b e => by cases e] at h; cases h
        | cl a b => rw [wv_no e e2 fun b e => by cases e] at h; cases h
theorem wv_sz : ∀ {t t1 : Tm}, wv t = some t1 → sz t1 ≤ sz t * sz t
  | .cl f x, t1, h => by
    have sq : sz (.cl f x) * sz (.cl f x) = sz f * sz f + sz f * sz x + sz x * sz f + sz x * sz x + 2 * sz f + 2 * sz x + 1 := by
      simp only [sz, Nat.add_mul, Nat.mul_add, Nat.one_mul, Nat.mul_one]
      omega
    rw [sq]
    cases e : wv f with
    | some f1 => rw [wv_fst e] at h; cases h; have := wv_sz e; simp only [sz]; omega
    | none =>
      cases e2 : wv x with
      | some x1 => rw [wv_snd e e2] at h; cases h; have := wv_sz e2; simp only [sz]; omega
      | none =>
        cases f with
        | fn b =>
          rw [wv_put e2] at h
          cases h
          have := put_sz b x 0
          simp only [sz, Nat.add_mul, Nat.one_mul]
          omega
        | av j => rw [wv_no e e2 fun b e => by cases e] at h; cases h
        | nm w => rw [wv_no e e2 fun b e => by cases e] at h; cases h
        | cl a b => rw [wv_no e e2 fun b e => by cases e] at h; cases h
theorem wv_sz300 {c y : Tm} (h : wv c = some y) (z : sz c < 300) : sz y ≤ 100000 := by
  have h1 := wv_sz h
  have h2 : sz c * sz c ≤ 300 * 300 := Nat.mul_le_mul (by omega) (by omega)
  omega
end Mini
end L2
/-! Mini, part Vb: the machine by code goes as steps by value do -/
namespace L2
namespace Mini
open PySem PySem.Spec PyProof.Rows
/-! ### orders -/
inductive Od where | g (k : Nat) | n (l : List Nat) | c (t : Tm) | a
abbrev sGet : D := .str [103, 101, 116]
abbrev sClo : D := .str [99, 108, 111, 115, 101]
abbrev sCod : D := .str [99, 111, 100, 101]
def cdD : Tm → List D
  | .av k => [.tup [sGet, .int (k : Int)]]
  | .nm l => [.tup [sNm, .str l]]
  | .fn t => [.tup [sClo, .tup (cdD t)]]
  | .cl t u => cdD t ++ cdD u ++ [.tup [sCl]]
def cd : Tm → List Od
  | .av k => [.g k]
  | .nm l => [.n l]
  | .fn t => [.c t]
  | .cl t u => cd t ++ cd u ++ [.a]
def orD : Od → D
  | .g k => .tup [sGet, .int (k : Int)]
  | .n l => .tup [sNm, .str l]
  | .c t => .tup [sClo, .tup (cdD t)]
  | .a => .tup [sCl]
theorem cd_map : ∀ t : Tm, (cd t).map orD = cdD t
  | .av _ => rfl
  | .nm _ => rfl
  | .fn _ => rfl
  | .cl t u => by simp [cd, cdD, cd_map t, cd_map u, orD]
theorem cd_len : ∀ t : Tm, (cd t).length ≤ sz t
  | .av _ => Nat.le_refl _
  | .nm _ => Nat.le_refl _
  | .fn t => by simp [cd, sz]
  | .cl t u => by
    have := cd_len t
    have := cd_len u
    simp only [cd, sz, List.length_append, List.length_cons, List.length_nil]
    omega
structure Fd where
  v : List Nat
  e : List Nat
  o : List Od
structure Cs where
  o : List Od
  r : List Nat
  e : List Nat
  d : List Fd
  c : List Cx
def kxD : Cx → D
  | .wt t e => .tup [sWt, enc t, nts e]
  | .fc t e => .tup [sClo, .tup (cdD t), nts e]
  | .sk l a => .tup [sSk, .str l, nts a]
  | .ct t => .tup [sWt, enc t, .tup []]
def fdD (x : Fd) : D := .tup [nts x.v, nts x.e, .tup (x.o.map orD)]
def csD (m : Cs) : D := .tup [sCod, .tup (m.o.map orD), nts m.r, nts m.e, .tup (m.d.map fdD), .tup (m.c.map kxD)]
def ccall (x : Cx) (n : Nat) (o : List Od) (r e : List Nat) (d : List Fd) (c : List Cx) : Option (Wd × Cs) := match x with
  | .sk l a => some (.other, ⟨o, c.length :: r, e, d, c ++ [.sk l (a ++ [n])]⟩)
  | .fc t e' => some (.put, ⟨cd t, [], n :: e', ⟨r, e, o⟩ :: d, c⟩)
  | _ => none
def cstep : Cs → Option (Wd × Cs)
  | ⟨.g k :: o, r, e, d, c⟩ => some (.other, ⟨o, e.getD k 0 :: r, e, d, c⟩)
  | ⟨.n l :: o, r, e, d, c⟩ => some (.other, ⟨o, c.length :: r, e, d, c ++ [.sk l []]⟩)
  | ⟨.c t :: o, r, e, d, c⟩ => some (.other, ⟨o, c.length :: r, e, d, c ++ [.fc t e]⟩)
  | ⟨.a :: o, n :: f :: r, e, d, c⟩ => match c[f]? with
    | some x => ccall x n o r e d c
    | none => none
  | ⟨[], n :: _, _, ⟨v, e', o⟩ :: d, c⟩ => some (.other, ⟨o, n :: v, e', d, c⟩)
  | _ => none
/-! ### what holds along a run -/
/-- orders of a surrounding -/
def ob (D N : Nat) (e : List Nat) : Od → Prop
  | .g k => k < e.length
  | .n l => nameB l = true
  | .c t => Pb D N (.fn t) e ∧ sz t ≤ 400
  | .a => True
/-- leads to one -/
def ar : List Od → Nat → Prop
  | [], r => r = 1
  | .a :: o, r => 2 ≤ r ∧ ar o (r - 1)
  | .g _ :: o, r => ar o (r + 1)
  | .n _ :: o, r => ar o (r + 1)
  | .c _ :: o, r => ar o (r + 1)
theorem ar_cd : ∀ (t : Tm) (o : List Od) (r : Nat), ar o (r + 1) → ar (cd t ++ o) r
  | .av _, o, r, h => h
  | .nm _, o, r, h => h
  | .fn _, o, r, h => h
  | .cl t u, o, r, h => by
    simp only [cd, List.append_assoc]
    refine ar_cd t _ r (ar_cd u _ (r + 1) ?_)
    exact ⟨by omega, h⟩
theorem ob.mono {D N N' : Nat} {e : List Nat} {x : Od} (h : ob D N e x) (q : N ≤ N') : ob D N' e x := by
  cases x with
  | g k => exact h
  | n l => exact h
  | c t => exact ⟨h.1.mono q, h.2⟩
  | a => exact h
theorem ob_cd {D N : Nat} {e : List Nat} : ∀ {t : Tm}, Pb D N t e → sz t ≤ 400 → ∀ x ∈ cd t, ob D N e x
  | .av k, h, _, x, hx => by
    simp only [cd, List.mem_singleton] at hx
    subst hx
    have := h.1
    simp only [clo, decide_eq_true_eq] at this
    exact this
  | .nm l, h, _, x, hx => by
    simp only [cd, List.mem_singleton] at hx
    subst hx
    exact h.2.1
  | .fn t, h, hz, x, hx => by
    simp only [cd, List.mem_singleton] at hx
    subst hx
    simp only [sz] at hz
    exact ⟨h, by omega⟩
  | .cl t u, h, hz, x, hx => by
    obtain ⟨h1, h2, h3, h4, h5⟩ := h
    simp only [clo, good, Bool.and_eq_true, dp, sz] at h1 h2 h3 h4 hz
    simp only [cd, List.mem_append, List.mem_singleton] at hx
    rcases hx with (hx | hx) | rfl
    · exact ob_cd (t := t) ⟨h1.1, h2.1, by omega, by omega, h5⟩ (by omega) x hx
    · exact ob_cd (t := u) ⟨h1.2, h2.2, by omega, by omega, h5⟩ (by omega) x hx
    · exact True.intro
structure Ew (D N n : Nat) (es vs : List Nat) (os : List Od) : Prop where
  le : es.length ≤ D
  e : ∀ z ∈ es, z < N
  o : ∀ x ∈ os, ob D N es x
  lo : os.length ≤ 400
  v : ∀ z ∈ vs, z < N
  lv : vs.length ≤ n
theorem Ew.mono {D N N' n n' : Nat} {e v : List Nat} {o : List Od} (h : Ew D N n e v o) (q : N ≤ N') (p : n ≤ n') : Ew D N' n' e v o :=
  ⟨h.le, fun z hz => Nat.lt_of_lt_of_le (h.e z hz) q, fun x hx => (h.o x hx).mono q, h.lo, fun z hz => Nat.lt_of_lt_of_le (h.v z hz) q, Nat.le_trans h.lv p⟩
structure Cw (D n : Nat) (m : Cs) : Prop where
  w : Ew D m.c.length n m.e m.r m.o
  a : ar m.o m.r.length
  d : ∀ x ∈ m.d, Ew D m.c.length n x.e x.v x.o ∧ ar x.o (x.v.length + 1)
  c : ∀ (i : Nat) (x : Cx), m.c[i]? = some x → vb D i (3 * n) x
  z : ∀ (i : Nat) (t : Tm) (e : List Nat), m.c[i]? = some (.fc t e) → sz t ≤ 400
  ld : m.d.length ≤ n
  lc : m.c.length ≤ n
theorem Cw.begin {D : Nat} {t : Tm} (hg : good t = true) (hc : clo 0 t = true) (hd : dp t ≤ D) (hz : sz t ≤ 400) : Cw D 0 ⟨cd t, [], [], [], []⟩ :=
  ⟨⟨Nat.zero_le _, fun _ h => (by cases h), ob_cd ⟨hc, hg, by simpa using hd, by omega, fun _ h => (by cases h)⟩ hz, Nat.le_trans (cd_len t) hz, fun _ h => (by cases h), Nat.le_refl _⟩, by have := ar_cd t [] 0 rfl; rwa [List.append_nil] at this, fun _ h => (by cases h), fun i x h => (by cases h), fun i t e h => (by cases h), Nat.le_refl _, Nat.le_refl _⟩
theorem Cw.cells {D n : Nat} {m : Cs} {x : Cx} (w : Cw D n m) (hx : vb D m.c.length (3 * (n + 1)) x) : ∀ (i : Nat) (y : Cx), (m.c ++ [x])[i]? = some y → vb D i (3 * (n + 1)) y := fun i y hy => by
  by_cases hi : i < m.c.length
  · rw [List.getElem?_append_left hi] at hy
    exact (w.c i y hy).mono (by omega)
  · have hi2 := (List.getElem?_eq_some_iff.mp hy).1
    simp only [List.length_append, List.length_cons, List.length_nil] at hi2
    have : i = m.c.length := by omega
    subst this
    rw [List.getElem?_append_right (Nat.le_refl _), Nat.sub_self] at hy
    simp only [List.getElem?_cons_zero, Option.some.injEq] at hy
    rw [← hy]
    exact hx
theorem Cw.zs {D n : Nat} {m : Cs} {x : Cx} (w : Cw D n m) (hx : ∀ t e, x = .fc t e → sz t ≤ 400) : ∀ (i : Nat) (t : Tm) (e : List Nat), (m.c ++ [x])[i]? = some (.fc t e) → sz t ≤ 400 := fun i t e hy => by
  by_cases hi : i < m.c.length
  · rw [List.getElem?_append_left hi] at hy
    exact w.z i t e hy
  · rw [List.getElem?_append_right (by omega)] at hy
    have hi2 := (List.getElem?_eq_some_iff.mp hy).1
    simp only [List.length_cons, List.length_nil] at hi2
    rw [show i - m.c.length = 0 by omega] at hy
    simp only [List.getElem?_cons_zero, Option.some.injEq] at hy
    exact hx t e hy
theorem Cw.new {D n : Nat} {o : List Od} {y : Od} {r r' e : List Nat} {d : List Fd} {c : List Cx} {x : Cx} (w : Cw D n ⟨y :: o, r, e, d, c⟩) (hr : ∀ z ∈ r', z < c.length) (lr : r'.length ≤ n) (ha : ar o (r'.length + 1)) (hx : vb D c.length (3 * (n + 1)) x) (hz : ∀ t e, x = .fc t e → sz t ≤ 400) : Cw D (n + 1) ⟨o, c.length :: r', e, d, c ++ [x]⟩ := by
  have hl : (c ++ [x]).length = c.length + 1 := by simp
  have wo := w.w.o
  have wl := w.w.lo
  have lc := w.lc
  have ld := w.ld
  dsimp only at wo wl lc ld
  simp only [List.length_cons] at wl
  refine ⟨⟨w.w.le, fun z hz => ?_, fun z hz => ?_, by dsimp only; omega, fun z hz => ?_, ?_⟩, ha, fun z hz => ?_, w.cells hx, w.zs hz, by dsimp only; omega, by dsimp only; omega⟩
  · have := w.w.e z hz
    dsimp only at this ⊢
    omega
  · exact (wo z (List.mem_cons_of_mem _ hz)).mono (by dsimp only; omega)
  · dsimp only
    rcases List.mem_cons.mp hz with rfl | hz
    · omega
    · have := hr z hz; omega
  · simp only [List.length_cons]; omega
  · obtain ⟨h1, h2⟩ := w.d z hz
    exact ⟨h1.mono (by dsimp only; omega) (Nat.le_succ _), h2⟩
theorem cstep_ok {D n : Nat} {m m' : Cs} {x : Wd} (w : Cw D n m) (h : cstep m = some (x, m')) : Cw D (n + 1) m' := by
  have wc : ∀ (i : Nat) (x : Cx), m.c[i]? = some x → vb D i (3 * (n + 1)) x := fun i x h => (w.c i x h).mono (by omega)
  obtain ⟨o, r, e, d, c⟩ := m
  have lc := w.lc
  have ld := w.ld
  have lv := w.w.lv
  have we := w.w.e
  have wo := w.w.o
  have wv' := w.w.v
  have wl := w.w.lo
  have wa := w.a
  have wd := w.d
  dsimp only at lc ld lv we wo wv' wl wa wd
  cases o with
  | nil =>
    cases r with
    | nil => cases wa
    | cons z r =>
      cases d with
      | nil => cases h
      | cons y d =>
        obtain ⟨v, e', o⟩ := y
        cases h
        obtain ⟨h1, h2⟩ := wd ⟨v, e', o⟩ List.mem_cons_self
        dsimp only at h1 h2
        simp only [List.length_cons] at ld
        have h1' := h1.mono (Nat.le_refl _) (Nat.le_succ n)
        refine ⟨⟨h1.le, h1.e, h1.o, h1.lo, fun q hq => ?_, by have := h1.lv; simp only [List.length_cons]; omega⟩, h2, fun q hq => ?_, wc, w.z, by dsimp only; omega, by dsimp only; omega⟩
        · rcases List.mem_cons.mp hq with rfl | hq
          · exact wv' _ List.mem_cons_self
          · exact h1.v q hq
        · obtain ⟨g1, g2⟩ := wd q (List.mem_cons_of_mem _ hq)
          exact ⟨g1.mono (Nat.le_refl _) (Nat.le_succ _), g2⟩
  | cons y o =>
    cases y with
    | g k =>
      cases h
      have hk : k < e.length := wo (.g k) List.mem_cons_self
      simp only [List.length_cons] at wl
      refine ⟨⟨w.w.le, we, fun q hq => wo q (List.mem_cons_of_mem _ hq), by dsimp only; omega, fun q hq => ?_, by simp only [List.length_cons]; omega⟩, wa, fun q hq => ?_, wc, w.z, by dsimp only; omega, by dsimp only; omega⟩
      · rcases List.mem_cons.mp hq with rfl | hq
        · dsimp only
          rw [List.getD_eq_getElem?_getD, List.getElem?_eq_getElem hk]
          exact we _ (List.getElem_mem hk)
        · exact wv' q hq
      · obtain ⟨g1, g2⟩ := wd q hq
        exact ⟨g1.mono (Nat.le_refl _) (Nat.le_succ _), g2⟩
    | n l =>
      cases h
      exact w.new (x := .sk l []) wv' lv wa ⟨wo (.n l) List.mem_cons_self, Nat.zero_le _, fun _ h => (by cases h)⟩ fun _ _ h => (by cases h)
    | c t =>
      cases h
      obtain ⟨g1, g2⟩ := wo (.c t) List.mem_cons_self
      exact w.new (x := .fc t e) wv' lv wa g1 fun _ _ h => (by cases h; exact g2)
    | a =>
      obtain ⟨a1, a2⟩ := wa
      cases r with
      | nil => simp at a1
      | cons z r =>
        cases r with
        | nil => simp at a1
        | cons f r =>
          have hf : f < c.length := wv' f (by simp)
          have hz : z < c.length := wv' z (by simp)
          simp only [cstep, List.getElem?_eq_getElem hf] at h
          have hx := w.c f c[f] (List.getElem?_eq_getElem hf)
          have hzz := w.z f
          dsimp only at hzz
          simp only [List.length_cons] at lv a2 wl
          cases e1 : c[f] with
          | wt t e' => rw [e1] at hx; cases hx
          | ct t => rw [e1] at hx; cases hx
          | sk l a =>
            rw [e1] at h hx
            cases h
            refine w.new (x := .sk l (a ++ [z])) (r' := r) (fun q hq => wv' q (by simp [hq])) (by omega) (by rw [show r.length + 1 = r.length + 1 + 1 - 1 by omega]; exact a2) ⟨hx.1, by have := hx.2.1; simp only [List.length_append, List.length_cons, List.length_nil]; omega, fun q hq => ?_⟩ fun _ _ h => (by cases h)
            rcases List.mem_append.mp hq with hq | hq
            · exact Nat.lt_trans (hx.2.2 q hq) hf
            · rw [List.mem_singleton.mp hq]; exact hz
          | fc t e' =>
            rw [e1] at h hx
            cases h
            obtain ⟨g1, g2, g3, g4, g5⟩ := hx
            have gz := hzz t e' (by rw [List.getElem?_eq_getElem hf, e1])
            have dpt := dp_pos t
            simp only [dp, sz] at g3 g4
            have pb : Pb D c.length t (z :: e') := ⟨g1, g2, by simp only [List.length_cons]; omega, by omega, fun q hq => by
              rcases List.mem_cons.mp hq with rfl | hq
              · exact hz
              · exact Nat.lt_trans (g5 q hq) hf⟩
            refine ⟨⟨by simp only [List.length_cons]; omega, pb.2.2.2.2, ob_cd pb gz, Nat.le_trans (cd_len t) gz, fun _ h => (by cases h), Nat.zero_le _⟩, by have := ar_cd t [] 0 rfl; rwa [List.append_nil] at this, fun q hq => ?_, wc, w.z, by simp only [List.length_cons]; omega, by dsimp only; omega⟩
            rcases List.mem_cons.mp hq with rfl | hq
            · exact ⟨⟨w.w.le, we, fun q hq => wo q (List.mem_cons_of_mem _ hq), by dsimp only; omega, fun q hq => wv' q (by simp [hq]), by dsimp only; omega⟩, by rw [show r.length + 1 = r.length + 1 + 1 - 1 by omega]; exact a2⟩
            · obtain ⟨g1, g2⟩ := wd q hq
              exact ⟨g1.mono (Nat.le_refl _) (Nat.le_succ _), g2⟩
/-! ### the term of a state -/
def exO (g : Nat → Option Tm) (e : List Nat) : List Od → List Tm → Option (List Tm)
  | [], ts => some ts
  | .g k :: o, ts => match fill g (.av k) e 0 with
    | some u => exO g e o (u :: ts)
    | none => none
  | .n l :: o, ts => exO g e o (.nm l :: ts)
  | .c t :: o, ts => match fill g (.fn t) e 0 with
    | some u => exO g e o (u :: ts)
    | none => none
  | .a :: o, x :: f :: ts => exO g e o (.cl f x :: ts)
  | .a :: _, _ => none
theorem exO_cd {g : Nat → Option Tm} {e : List Nat} : ∀ {t T : Tm} (o : List Od) (ts : List Tm), fill g t e 0 = some T → exO g e (cd t ++ o) ts = exO g e o (T :: ts)
  | .av k, T, o, ts, h => by simp only [cd, List.cons_append, List.nil_append, exO, h]
  | .nm l, T, o, ts, h => by cases h; rfl
  | .fn t, T, o, ts, h => by simp only [cd, List.cons_append, List.nil_append, exO, h]
  | .cl t u, T, o, ts, h => by
    unfold fill at h
    cases a : fill g t e 0 with
    | none => rw [a] at h; cases h
    | some F =>
      cases b : fill g u e 0 with
      | none => rw [a, b] at h; cases h
      | some X =>
        rw [a, b] at h
        cases h
        simp only [cd, List.append_assoc]
        rw [exO_cd _ _ a, exO_cd _ _ b]
        rfl
def vls (g : Nat → Option Tm) : List Nat → Option (List Tm)
  | [] => some []
  | n :: v => match g n, vls g v with
    | some u, some us => some (u :: us)
    | _, _ => none
theorem vls_cons {g : Nat → Option Tm} {n : Nat} {v : List Nat} {ts : List Tm} (h : vls g (n :: v) = some ts) : ∃ u us, g n = some u ∧ vls g v = some us ∧ ts = u :: us := by
  unfold vls at h
  cases a : g n with
  | none => rw [a] at h; cases h
  | some u =>
    cases b : vls g v with
    | none => rw [a, b] at h; cases h
    | some us => rw [a, b] at h; cases h; exact ⟨u, us, rfl, rfl, rfl⟩
theorem vls_mk {g : Nat → Option Tm} {n : Nat} {v : List Nat} {u : Tm} {us : List Tm} (h1 : g n = some u) (h2 : vls g v = some us) : vls g (n :: v) = some (u :: us) := by
  unfold vls
  rw [h1, h2]
def one : Option (List Tm) → Option Tm
  | some [u] => some u
  | _ => none
theorem one_some {x : Option (List Tm)} {u : Tm} (h : one x = some u) : x = some [u] := by
  match x, h with
  | some [v], h => cases h; rfl
  | some [], h => cases h
  | some (_ :: _ :: _), h => cases h
  | none, h => cases h
def dmT (g : Nat → Option Tm) : Tm → List Fd → Option Tm
  | T, [] => some T
  | T, x :: d => match vls g x.v with
    | some us => match one (exO g x.e x.o (T :: us)) with
      | some U => dmT g U d
      | none => none
    | none => none
theorem dmT_cons {g : Nat → Option Tm} {T R : Tm} {x : Fd} {d : List Fd} (h : dmT g T (x :: d) = some R) : ∃ us U, vls g x.v = some us ∧ exO g x.e x.o (T :: us) = some [U] ∧ dmT g U d = some R := by
  unfold dmT at h
  cases a : vls g x.v with
  | none => rw [a] at h; cases h
  | some us =>
    rw [a] at h
    cases b : one (exO g x.e x.o (T :: us)) with
    | none => simp only [b] at h; cases h
    | some U => simp only [b] at h; exact ⟨us, U, rfl, one_some b, h⟩
theorem dmT_mk {g : Nat → Option Tm} {T R U : Tm} {x : Fd} {d : List Fd} {us : List Tm} (h1 : vls g x.v = some us) (h2 : exO g x.e x.o (T :: us) = some [U]) (h3 : dmT g U d = some R) : dmT g T (x :: d) = some R := by
  unfold dmT
  rw [h1]
  simp only [h2, one]
  exact h3
def termC (m : Cs) : Option Tm := match vls (vG m.c) m.r with
  | some ts => match one (exO (vG m.c) m.e m.o ts) with
    | some U => dmT (vG m.c) U m.d
    | none => none
  | none => none
theorem termC_some {m : Cs} {R : Tm} (h : termC m = some R) : ∃ ts U, vls (vG m.c) m.r = some ts ∧ exO (vG m.c) m.e m.o ts = some [U] ∧ dmT (vG m.c) U m.d = some R := by
  unfold termC at h
  cases a : vls (vG m.c) m.r with
  | none => rw [a] at h; cases h
  | some ts =>
    rw [a] at h
    cases b : one (exO (vG m.c) m.e m.o ts) with
    | none => simp only [b] at h; cases h
    | some U => simp only [b] at h; exact ⟨ts, U, rfl, one_some b, h⟩
theorem termC_mk {m : Cs} {R U : Tm} {ts : List Tm} (h1 : vls (vG m.c) m.r = some ts) (h2 : exO (vG m.c) m.e m.o ts = some [U]) (h3 : dmT (vG m.c) U m.d = some R) : termC m = some R := by
  unfold termC
  rw [h1]
  simp only [h2, one]
  exact h3
theorem vls_mono {g h : Nat → Option Tm} (gh : ∀ n t, g n = some t → h n = some t) : ∀ {v : List Nat} {us : List Tm}, vls g v = some us → vls h v = some us
  | [], us, q => q
  | n :: v, us, q => by
    obtain ⟨u, us', h1, h2, rfl⟩ := vls_cons q
    exact vls_mk (gh n u h1) (vls_mono gh h2)
theorem exO_mono {g h : Nat → Option Tm} (gh : ∀ n t, g n = some t → h n = some t) {e : List Nat} : ∀ {o : List Od} {ts R : List Tm}, exO g e o ts = some R → exO h e o ts = some R
  | [], ts, R, q => q
  | .g k :: o, ts, R, q => by
    unfold exO at q ⊢
    cases a : fill g (.av k) e 0 with
    | none => rw [a] at q; cases q
    | some u => rw [a] at q; rw [fill_mono gh _ e 0 u a]; exact exO_mono gh (o := o) q
  | .n l :: o, ts, R, q => exO_mono gh (o := o) (ts := .nm l :: ts) q
  | .c t :: o, ts, R, q => by
    unfold exO at q ⊢
    cases a : fill g (.fn t) e 0 with
    | none => rw [a] at q; cases q
    | some u => rw [a] at q; rw [fill_mono gh _ e 0 u a]; exact exO_mono gh (o := o) q
  | .a :: o, [], R, q => by cases q
  | .a :: o, [_], R, q => by cases q
  | .a :: o, x :: f :: ts, R, q => exO_mono gh (o := o) (ts := .cl f x :: ts) q
theorem dmT_mono {g h : Nat → Option Tm} (gh : ∀ n t, g n = some t → h n = some t) : ∀ {d : List Fd} {T R : Tm}, dmT g T d = some R → dmT h T d = some R
  | [], T, R, q => q
  | x :: d, T, R, q => by
    obtain ⟨us, U, h1, h2, h3⟩ := dmT_cons q
    exact dmT_mk (vls_mono gh h1) (exO_mono gh h2) (dmT_mono gh h3)
theorem vls_wv {g : Nat → Option Tm} (hg : ∀ n u, g n = some u → wv u = none) : ∀ {v : List Nat} {us : List Tm}, vls g v = some us → ∀ u ∈ us, wv u = none
  | [], us, q, u, hu => by cases q; cases hu
  | n :: v, us, q, u, hu => by
    obtain ⟨u', us', h1, h2, rfl⟩ := vls_cons q
    rcases List.mem_cons.mp hu with rfl | hu
    · exact hg n _ h1
    · exact vls_wv hg h2 u hu
/-- a step of what is below goes through -/
theorem exO_step {g : Nat → Option Tm} {e : List Nat} : ∀ {o : List Od} {ws vs : List Tm} {T T1 : Tm} {R : List Tm}, wv T = some T1 → (∀ v ∈ vs, wv v = none) → exO g e o (ws ++ T :: vs) = some R → ∃ ws' vs' U U1, R = ws' ++ U :: vs' ∧ exO g e o (ws ++ T1 :: vs) = some (ws' ++ U1 :: vs') ∧ wv U = some U1
  | [], ws, vs, T, T1, R, h, hv, q => by cases q; exact ⟨ws, vs, T, T1, rfl, rfl, h⟩
  | .g k :: o, ws, vs, T, T1, R, h, hv, q => by
    unfold exO at q ⊢
    cases a : fill g (.av k) e 0 with
    | none => rw [a] at q; cases q
    | some u => rw [a] at q; exact exO_step (o := o) (ws := u :: ws) h hv q
  | .n l :: o, ws, vs, T, T1, R, h, hv, q => exO_step (o := o) (ws := .nm l :: ws) h hv q
  | .c t :: o, ws, vs, T, T1, R, h, hv, q => by
    unfold exO at q ⊢
    cases a : fill g (.fn t) e 0 with
    | none => rw [a] at q; cases q
    | some u => rw [a] at q; exact exO_step (o := o) (ws := u :: ws) h hv q
  | .a :: o, [], [], T, T1, R, h, hv, q => by cases q
  | .a :: o, [], f :: vs, T, T1, R, h, hv, q => exO_step (o := o) (ws := []) (wv_snd (hv f List.mem_cons_self) h) (fun v hm => hv v (List.mem_cons_of_mem _ hm)) q
  | .a :: o, [x], vs, T, T1, R, h, hv, q => exO_step (o := o) (ws := []) (T := .cl T x) (T1 := .cl T1 x) (wv_fst h) hv q
  | .a :: o, x :: f :: ws, vs, T, T1, R, h, hv, q => exO_step (o := o) (ws := .cl f x :: ws) h hv q
theorem exO_step1 {g : Nat → Option Tm} {e : List Nat} {o : List Od} {vs : List Tm} {T T1 U : Tm} (h : wv T = some T1) (hv : ∀ v ∈ vs, wv v = none) (q : exO g e o (T :: vs) = some [U]) : ∃ U1, exO g e o (T1 :: vs) = some [U1] ∧ wv U = some U1 := by
  obtain ⟨ws', vs', V, V1, h1, h2, h3⟩ := exO_step (ws := []) h hv q
  cases ws' with
  | nil =>
    simp only [List.nil_append, List.cons.injEq] at h1
    obtain ⟨rfl, rfl⟩ := h1
    exact ⟨V1, h2, h3⟩
  | cons a ws' =>
    simp only [List.cons_append, List.cons.injEq] at h1
    have := congrArg List.length h1.2
    simp at this
theorem dmT_step {g : Nat → Option Tm} (hg : ∀ n u, g n = some u → wv u = none) : ∀ {d : List Fd} {T T1 R : Tm}, wv T = some T1 → dmT g T d = some R → ∃ R1, dmT g T1 d = some R1 ∧ wv R = some R1
  | [], T, T1, R, h, q => by cases q; exact ⟨T1, rfl, h⟩
  | x :: d, T, T1, R, h, q => by
    obtain ⟨us, U, h1, h2, h3⟩ := dmT_cons q
    obtain ⟨U1, g1, g2⟩ := exO_step1 h (vls_wv hg h1) h2
    obtain ⟨R1, k1, k2⟩ := dmT_step hg g2 h3
    exact ⟨R1, dmT_mk h1 g1 k1, k2⟩
theorem cstep_term {D n : Nat} {m m' : Cs} {x : Wd} {T : Tm} (w : Cw D n m) (h : cstep m = some (x, m')) (hT : termC m = some T) : match x with | .other => termC m' = some T | .put => ∃ T', termC m' = some T' ∧ wv T = some T' := by
  have vc : Vc D (3 * n) m.c := ⟨w.c⟩
  have wo := w.w.o
  obtain ⟨o, r, e, d, c⟩ := m
  obtain ⟨ts, U, h1, h2, h3⟩ := termC_some hT
  dsimp only at h1 h2 h3 vc wo
  cases o with
  | nil =>
    cases r with
    | nil => cases h1; cases h2
    | cons z r =>
      cases d with
      | nil => cases h
      | cons y d =>
        obtain ⟨v, e', o⟩ := y
        cases h
        obtain ⟨u, us, g1, g2, rfl⟩ := vls_cons h1
        simp only [exO, Option.some.injEq, List.cons.injEq] at h2
        obtain ⟨rfl, _⟩ := h2
        obtain ⟨us', U', k1, k2, k3⟩ := dmT_cons h3
        exact termC_mk (vls_mk g1 k1) k2 k3
  | cons y o =>
    cases y with
    | g k =>
      cases h
      have hk : k < e.length := wo (.g k) List.mem_cons_self
      unfold exO at h2
      rw [fill_av hk] at h2
      cases a : vG c e[k] with
      | none => rw [a] at h2; cases h2
      | some u =>
        rw [a] at h2
        refine termC_mk (vls_mk (u := u) ?_ h1) h2 h3
        dsimp only
        rw [List.getD_eq_getElem?_getD, List.getElem?_eq_getElem hk]
        exact a
    | n l =>
      cases h
      exact termC_mk (vls_mk (vG_new (x := .sk l []) rfl) (vls_mono vG_app h1)) (exO_mono vG_app (o := o) (ts := .nm l :: ts) h2) (dmT_mono vG_app h3)
    | c t =>
      cases h
      unfold exO at h2
      cases a : fill (vG c) (.fn t) e 0 with
      | none => rw [a] at h2; cases h2
      | some u =>
        rw [a] at h2
        exact termC_mk (vls_mk (vG_new (x := .fc t e) a) (vls_mono vG_app h1)) (exO_mono vG_app h2) (dmT_mono vG_app h3)
    | a =>
      cases r with
      | nil => cases h
      | cons z r =>
        cases r with
        | nil => cases h
        | cons f r =>
          obtain ⟨N, us0, g1, g0, rfl⟩ := vls_cons h1
          obtain ⟨F, us, g2, g3, rfl⟩ := vls_cons g0
          have h2 : exO (vG c) e o (.cl F N :: us) = some [U] := h2
          have hf : f < c.length := w.w.v f (by simp)
          simp only [cstep, List.getElem?_eq_getElem hf] at h
          have hx := vc.c f c[f] (List.getElem?_eq_getElem hf)
          have hm := vG_at (List.getElem?_eq_getElem hf) g2
          cases e1 : c[f] with
          | wt t e' => rw [e1] at hx; cases hx
          | ct t => rw [e1] at hx; cases hx
          | sk l a =>
            rw [e1] at h hm
            cases h
            have hn : mk1 (vG c) (.sk l (a ++ [z])) = some (.cl F N) := argsT_snoc g1 hm
            exact termC_mk (vls_mk (vG_new hn) (vls_mono vG_app g3)) (exO_mono vG_app h2) (dmT_mono vG_app h3)
          | fc t e' =>
            rw [e1] at h hm
            cases h
            obtain ⟨B, hB, rfl⟩ := fill_fn hm
            have hg := vG_wv vc
            obtain ⟨U1, k1, k2⟩ := exO_step1 (wv_put (b := B) (hg z N g1)) (vls_wv hg g3) h2
            obtain ⟨R1, k3, k4⟩ := dmT_step hg k2 h3
            refine ⟨R1, termC_mk (ts := []) (U := put B N 0) rfl ?_ (dmT_mk (x := ⟨r, e, o⟩) g3 k1 k3), k4⟩
            have := exO_cd (g := vG c) (e := z :: e') (t := t) (T := put B N 0) [] [] (fill_put (vG_cl0 vc) g1 hB)
            rw [List.append_nil] at this
            exact this
theorem cstep_end {D n : Nat} {m : Cs} {T : Tm} (w : Cw D n m) (h : cstep m = none) (hT : termC m = some T) : wv T = none ∧ m.o = [] ∧ m.d = [] ∧ ∃ j, m.r = [j] ∧ vG m.c j = some T := by
  have vc : Vc D (3 * n) m.c := ⟨w.c⟩
  have wa := w.a
  obtain ⟨o, r, e, d, c⟩ := m
  obtain ⟨ts, U, h1, h2, h3⟩ := termC_some hT
  dsimp only at h1 h2 h3 vc wa
  cases o with
  | nil =>
    cases r with
    | nil => cases wa
    | cons z r =>
      cases d with
      | cons y d => cases h
      | nil =>
        obtain ⟨u, us, g1, g2, rfl⟩ := vls_cons h1
        simp only [exO, Option.some.injEq, List.cons.injEq] at h2
        obtain ⟨rfl, rfl⟩ := h2
        cases h3
        have : r = [] := List.eq_nil_of_length_eq_zero (by simp only [ar, List.length_cons] at wa; omega)
        subst this
        exact ⟨vG_wv vc z _ g1, rfl, rfl, z, rfl, g1⟩
  | cons y o =>
    cases y with
    | g k => cases h
    | n l => cases h
    | c t => cases h
    | a =>
      obtain ⟨a1, a2⟩ := wa
      cases r with
      | nil => simp at a1
      | cons z r =>
        cases r with
        | nil => simp at a1
        | cons f r =>
          have hf : f < c.length := w.w.v f (by simp)
          simp only [cstep, List.getElem?_eq_getElem hf] at h
          have hx := vc.c f c[f] (List.getElem?_eq_getElem hf)
          cases e1 : c[f] with
          | wt t e' => rw [e1] at hx; cases hx
          | ct t => rw [e1] at hx; cases hx
          | sk l a => rw [e1] at h; cases h
          | fc t e' => rw [e1] at h; cases h
theorem termC_begin {t : Tm} (h : clo 0 t = true) (hf : fill (vG []) t [] 0 = some t) : termC ⟨cd t, [], [], [], []⟩ = some t := by
  refine termC_mk (ts := []) (U := t) rfl ?_ rfl
  have := exO_cd (g := vG []) (e := []) (t := t) (T := t) [] [] hf
  rw [List.append_nil] at this
  exact this
end Mini
end L2
/-! Mini, part Vc: machines as such, and their runs -/
namespace L2
namespace Mini
open PySem PySem.Spec PyProof.Rows
mutual
theorem pl_gd' : ∀ x : D, pl x = true → gd x = true
  | .int _, _ => rfl
  | .str l, h => h
  | .tup ds, h => by
    simp only [pl, Bool.and_eq_true] at h
    simp only [gd]
    exact pls_gd' ds h.2
  | .non, h => by simp [pl] at h
  | .bl _, h => by simp [pl] at h
  | .ref _, h => by simp [pl] at h
  | .fn _, h => by simp [pl] at h
theorem pls_gd' : ∀ xs : List D, pls xs = true → gds xs = true
  | [], _ => rfl
  | x :: xs, h => by
    simp only [pls, Bool.and_eq_true] at h
    simp only [gds, Bool.and_eq_true]
    exact ⟨pl_gd' x h.1, pls_gd' xs h.2⟩
end
mutual
theorem deq_eq : ∀ x y : D, pl x = true → pl y = true → deq x y = true → x = y
  | .int i, .int j, _, _, h => by simp only [deq, beq_iff_eq] at h; rw [h]
  | .str a, .str b, _, _, h => by simp only [deq, beq_iff_eq] at h; rw [h]
  | .tup xs, .tup ys, h1, h2, h => by
    simp only [pl, Bool.and_eq_true] at h1 h2
    simp only [deq] at h
    rw [deqs_eq xs ys h1.2 h2.2 h]
  | .int _, .str _, _, _, h => by simp [deq] at h
  | .int _, .tup _, _, _, h => by simp [deq] at h
  | .str _, .int _, _, _, h => by simp [deq] at h
  | .str _, .tup _, _, _, h => by simp [deq] at h
  | .tup _, .int _, _, _, h => by simp [deq] at h
  | .tup _, .str _, _, _, h => by simp [deq] at h
  | .non, _, h, _, _ => by simp [pl] at h
  | .bl _, _, h, _, _ => by simp [pl] at h
  | .ref _, _, h, _, _ => by simp [pl] at h
  | .fn _, _, h, _, _ => by simp [pl] at h
  | _, .non, _, h, _ => by simp [pl] at h
  | _, .bl _, _, h, _ => by simp [pl] at h
  | _, .ref _, _, h, _ => by simp [pl] at h
  | _, .fn _, _, h, _ => by simp [pl] at h
theorem deqs_eq : ∀ xs ys : List D, pls xs = true → pls ys = true → deqs xs ys = true → xs = ys
  | [], [], _, _, _ => rfl
  | [], _ :: _, _, _, h => by simp [deqs] at h
  | _ :: _, [], _, _, h => by simp [deqs] at h
  | x :: xs, y :: ys, h1, h2, h => by
    simp only [pls, Bool.and_eq_true] at h1 h2
    simp only [deqs, Bool.and_eq_true] at h
    rw [deq_eq x y h1.1 h2.1 h.1, deqs_eq xs ys h1.2 h2.2 h.2]
end
theorem deq_ne {x y : D} (h1 : pl x = true) (h2 : pl y = true) (h : x ≠ y) : deq x y = false := by
  cases e : deq x y with
  | false => rfl
  | true => exact absurd (deq_eq x y h1 h2 e) h
mutual
theorem deq_self : ∀ x : D, pl x = true → deq x x = true
  | .int _, _ => by simp [deq]
  | .str _, _ => by simp [deq]
  | .tup xs, h => by
    simp only [pl, Bool.and_eq_true] at h
    simp only [deq]
    exact deqs_self xs h.2
  | .non, h => by simp [pl] at h
  | .bl _, h => by simp [pl] at h
  | .ref _, h => by simp [pl] at h
  | .fn _, h => by simp [pl] at h
theorem deqs_self : ∀ xs : List D, pls xs = true → deqs xs xs = true
  | [], _ => rfl
  | x :: xs, h => by
    simp only [pls, Bool.and_eq_true] at h
    simp only [deqs, Bool.and_eq_true]
    exact ⟨deq_self x h.1, deqs_self xs h.2⟩
end
/-! ### machines -/
structure Mc where
  S : Type
  dat : S → D
  nx : S → Option (Wd × S)
  inv : Nat → S → Prop
  ok : ∀ {n : Nat} {m m' : S} {x : Wd}, inv n m → nx m = some (x, m') → inv (n + 1) m'
  ne : ∀ {n : Nat} {m m' : S} {x : Wd}, inv n m → nx m = some (x, m') → dat m ≠ dat m'
  pl : ∀ {n : Nat} {m : S}, inv n m → n ≤ 400 → Mini.pl (dat m) = true
  dd : ∀ {n : Nat} {m : S}, inv n m → n ≤ 400 → Mini.dd (dat m) ≤ 100
/-- the state behind a step, or None -/
def Mc.nd (M : Mc) (m : M.S) : D := match M.nx m with
  | none => .non
  | some (_, m') => M.dat m'
def Mc.pw (M : Mc) (m : M.S) : Nat := match M.nx m with
  | none => 0
  | some (x, _) => wdN x
/-- states, each behind the one before -/
inductive Ch (M : Mc) : Nat → M.S → List M.S → Prop
  | nil {n : Nat} {a : M.S} : M.inv n a → Ch M n a []
  | cons {n : Nat} {a b : M.S} {x : Wd} {bs : List M.S} : M.inv n a → M.nx a = some (x, b) → Ch M (n + 1) b bs → Ch M n a (b :: bs)
def lastC {α : Type} : α → List α → α
  | a, [] => a
  | _, b :: bs => lastC b bs
def ptC (M : Mc) : Nat → M.S → List M.S → Nat
  | p, _, [] => p
  | p, a, b :: bs => ptC M (p + M.pw a) b bs
theorem Ch.inv0 {M : Mc} {n : Nat} {a : M.S} {bs : List M.S} (h : Ch M n a bs) : M.inv n a := by cases h <;> assumption
theorem Ch.last {M : Mc} : ∀ {bs : List M.S} {n : Nat} {a : M.S}, Ch M n a bs → M.inv (n + bs.length) (lastC a bs)
  | [], n, a, .nil h => h
  | b :: bs, n, a, .cons _ _ h => by
    have := Ch.last h
    rw [show n + (b :: bs).length = n + 1 + bs.length by simp only [List.length_cons]; omega]
    exact this
theorem Ch.snoc {M : Mc} {x : Wd} {c : M.S} : ∀ {bs : List M.S} {n : Nat} {a : M.S}, Ch M n a bs → M.nx (lastC a bs) = some (x, c) → Ch M n a (bs ++ [c])
  | [], n, a, .nil h, e => .cons h e (.nil (M.ok h e))
  | b :: bs, n, a, .cons h e1 h2, e => .cons h e1 (Ch.snoc h2 e)
theorem lastC_snoc {α : Type} {c : α} : ∀ {bs : List α} {a : α}, lastC a (bs ++ [c]) = c
  | [], _ => rfl
  | _ :: bs, _ => lastC_snoc (bs := bs)
theorem Ch.split {M : Mc} {cs : List M.S} : ∀ {bs : List M.S} {n : Nat} {a : M.S}, Ch M n a (bs ++ cs) → Ch M n a bs ∧ Ch M (n + bs.length) (lastC a bs) cs
  | [], n, a, h => ⟨.nil h.inv0, h⟩
  | b :: bs, n, a, .cons h e h2 => by
    obtain ⟨h3, h4⟩ := Ch.split (bs := bs) h2
    refine ⟨.cons h e h3, ?_⟩
    rw [show n + (b :: bs).length = n + 1 + bs.length by simp only [List.length_cons]; omega]
    exact h4
/-- so many steps -/
def itN (st : Tm → Option Tm) : Nat → Tm → Option Tm
  | 0, t => some t
  | n + 1, t => match st t with
    | some u => itN st n u
    | none => none
theorem itN_add (st : Tm → Option Tm) : ∀ (n k : Nat) (t T : Tm), itN st n t = some T → itN st (n + k) t = itN st k T
  | 0, k, t, T, h => by cases h; rw [Nat.zero_add]
  | n + 1, k, t, T, h => by
    rw [show n + 1 + k = (n + k) + 1 by omega]
    cases e : st t with
    | none => simp only [itN, e] at h; cases h
    | some u =>
      simp only [itN, e] at h
      rw [show itN st (n + k + 1) t = itN st (n + k) u by simp only [itN, e]]
      exact itN_add st n k u T h
theorem itN_end {st : Tm → Option Tm} {n k : Nat} {t T d : Tm} (h1 : itN st n t = some T) (e1 : st T = none) (h2 : itN st k t = some d) (e2 : st d = none) : n = k := by
  by_cases c : n < k
  · obtain ⟨j, rfl⟩ : ∃ j, k = n + (j + 1) := ⟨k - n - 1, by omega⟩
    rw [itN_add st n _ t T h1] at h2
    simp only [itN, e1] at h2
    cases h2
  · by_cases c2 : k < n
    · obtain ⟨j, rfl⟩ : ∃ j, n = k + (j + 1) := ⟨n - k - 1, by omega⟩
      rw [itN_add st k _ t d h2] at h1
      simp only [itN, e2] at h1
      cases h1
    · omega
theorem itN_snoc {st : Tm → Option Tm} {n : Nat} {t T U : Tm} (h : itN st n t = some T) (e : st T = some U) : itN st (n + 1) t = some U := by
  rw [itN_add st n 1 t T h]
  simp only [itN, e]
/-- a machine's states as terms -/
structure Te (M : Mc) (st : Tm → Option Tm) (t : Tm) (m0 : M.S) where
  tm : M.S → Option Tm
  b : tm m0 = some t
  o : ∀ {n : Nat} {a b : M.S} {T : Tm}, M.inv n a → M.nx a = some (.other, b) → tm a = some T → tm b = some T
  p : ∀ {n : Nat} {a b : M.S} {T : Tm}, M.inv n a → M.nx a = some (.put, b) → tm a = some T → ∃ T', tm b = some T' ∧ st T = some T'
  e : ∀ {n : Nat} {a : M.S} {T : Tm}, M.inv n a → M.nx a = none → tm a = some T → st T = none
theorem Te.run {M : Mc} {st : Tm → Option Tm} {t : Tm} {m0 : M.S} (E : Te M st t m0) : ∀ {bs : List M.S} {n p : Nat} {a : M.S} {T : Tm}, Ch M n a bs → E.tm a = some T → itN st p t = some T → ∃ U, E.tm (lastC a bs) = some U ∧ itN st (ptC M p a bs) t = some U
  | [], n, p, a, T, _, h1, h2 => ⟨T, h1, h2⟩
  | b :: bs, n, p, a, T, .cons (x := x) h e hc, h1, h2 => by
    unfold ptC lastC
    have hp : M.pw a = wdN x := by unfold Mc.pw; rw [e]
    rw [hp]
    cases x with
    | other => exact E.run hc (E.o h e h1) h2
    | put =>
      obtain ⟨T', g1, g2⟩ := E.p h e h1
      exact E.run hc g1 (itN_snoc h2 g2)
end Mini
end L2
/-! the program of k49_code_as_texts, printed by gen.py: its text by places, in the small language, the rules that it is by -/
namespace L2
namespace Mini
namespace K49
open PySem PySem.Spec PyProof.Rows
def top (i : Nat) : Stmt := PySem.Challenge.pw_normalhouse_k49_code_as_texts.main.body.getD i (.Pass ⟨0, 0, 0, 0⟩)
/-- is_integer(value, low, high) -/
abbrev s0 : Stmt := top 12
def ir0 : Stms :=
  (.cons (.ret (.and (.isi (.var 0) .int) (.and (.not (.isi (.var 0) .bool)) (.chn .le .le (.var 1) (.var 0) (.var 2)))))
  .nil)
/-- is_name(value, sign) -/
abbrev s1 : Stmt := top 13
def ir1 : Stms :=
  (.cons (.ife (.or (.not (.isi (.var 0) .str)) (.or (.not (.chn .le .le (.lit (.int 1)) (.bi .len (.cons (.var 0) .nil)) (.lit (.int 12)))) (.cmp .in_ (.var 0) (.lit (.tup [(.str [108, 101, 116]), (.str [105, 110])]))))) (.cons (.ret (.lit (.bl false)))
  .nil) .nil)
  (.cons (.ret (.and (.cmp .in_ (.ix (.var 0) (.lit (.int 0))) (.lit (.str [97, 98, 99, 100, 101, 102, 103, 104, 105, 106, 107, 108, 109, 110, 111, 112, 113, 114, 115, 116, 117, 118, 119, 120, 121, 122]))) (.bi .all (.cons (.lc (.or (.cmp .in_ (.var 1) (.lit (.str [97, 98, 99, 100, 101, 102, 103, 104, 105, 106, 107, 108, 109, 110, 111, 112, 113, 114, 115, 116, 117, 118, 119, 120, 121, 122]))) (.cmp .in_ (.var 1) (.lit (.str [48, 49, 50, 51, 52, 53, 54, 55, 56, 57])))) (.nm 1) (.sq (.slc (.var 0) (.some (.lit (.int 1))) .none)) .none) .nil))))
  .nil))
/-- measured(term, rows, many, most, one, deep) -/
abbrev s2 : Stmt := top 14
def ir2 : Stms :=
  (.cons (.set 1 (.lst (.cons (.tup (.cons (.var 0) (.cons (.lit (.int 1)) .nil))) .nil)))
  (.cons (.set 2 (.lit (.int 0)))
  (.cons (.set 3 (.lit (.int 0)))
  (.cons (.whl (.cmp .ne (.var 1) (.lst .nil)) (.cons (.unp [4, 5] (.bm .pop (.var 1) .nil))
  (.cons (.aug 2 .add (.lit (.int 1)))
  (.cons (.set 3 (.bi .max (.cons (.var 3) (.cons (.var 5) .nil))))
  (.cons (.ife (.cmp .eq (.ix (.var 4) (.lit (.int 0))) (.lit (.str [102, 117, 110]))) (.cons (.ex (.bm .append (.var 1) (.cons (.tup (.cons (.ix (.var 4) (.lit (.int 1))) (.cons (.bin .add (.var 5) (.lit (.int 1))) .nil))) .nil)))
  .nil) (.cons (.ife (.cmp .eq (.ix (.var 4) (.lit (.int 0))) (.lit (.str [99, 97, 108, 108]))) (.cons (.ex (.bm .append (.var 1) (.cons (.tup (.cons (.ix (.var 4) (.lit (.int 1))) (.cons (.bin .add (.var 5) (.lit (.int 1))) .nil))) .nil)))
  (.cons (.ex (.bm .append (.var 1) (.cons (.tup (.cons (.ix (.var 4) (.lit (.int 2))) (.cons (.bin .add (.var 5) (.lit (.int 1))) .nil))) .nil)))
  .nil)) .nil)
  .nil))
  .nil)))))
  (.cons (.ret (.tup (.cons (.var 2) (.cons (.var 3) .nil))))
  .nil)))))
/-- parted(order, found, left, form, body, argument) -/
abbrev s3 : Stmt := top 16
def ir3 : Stms :=
  (.cons (.ife (.or (.not (.isi (.var 0) .tuple)) (.or (.cmp .eq (.var 0) (.tup .nil)) (.not (.isi (.ix (.var 0) (.lit (.int 0))) .str)))) (.cons (.ret (.lit (.bl false)))
  .nil) .nil)
  (.cons (.set 3 (.tup (.cons (.ix (.var 0) (.lit (.int 0))) (.cons (.bi .len (.cons (.var 0) .nil)) .nil))))
  (.cons (.ife (.and (.cmp .eq (.var 3) (.tup (.cons (.lit (.str [103, 101, 116])) (.cons (.lit (.int 2)) .nil)))) (.call 0 (.cons (.ix (.var 0) (.lit (.int 1))) (.cons (.lit (.int 0)) (.cons (.lit (.int 400)) .nil))))) (.cons (.ex (.bm .append (.var 1) (.cons (.tup (.cons (.lit (.str [97, 116])) (.cons (.ix (.var 0) (.lit (.int 1))) .nil))) .nil)))
  (.cons (.ret (.lit (.bl true)))
  .nil)) .nil)
  (.cons (.ife (.and (.cmp .eq (.var 3) (.tup (.cons (.lit (.str [110, 97, 109, 101])) (.cons (.lit (.int 2)) .nil)))) (.call 1 (.cons (.ix (.var 0) (.lit (.int 1))) .nil))) (.cons (.ex (.bm .append (.var 1) (.cons (.var 0) .nil)))
  (.cons (.ret (.lit (.bl true)))
  .nil)) .nil)
  (.cons (.ife (.cmp .eq (.var 3) (.tup (.cons (.lit (.str [99, 108, 111, 115, 101])) (.cons (.lit (.int 2)) .nil)))) (.cons (.set 4 (.call 4 (.cons (.ix (.var 0) (.lit (.int 1))) (.cons (.bin .sub (.var 2) (.lit (.int 1))) .nil))))
  (.cons (.ife (.cmp .isnot (.var 4) (.lit .non)) (.cons (.ex (.bm .append (.var 1) (.cons (.tup (.cons (.lit (.str [102, 117, 110])) (.cons (.var 4) .nil))) .nil)))
  .nil) .nil)
  (.cons (.ret (.cmp .isnot (.var 4) (.lit .non)))
  .nil))) .nil)
  (.cons (.ife (.and (.cmp .eq (.var 3) (.tup (.cons (.lit (.str [99, 97, 108, 108])) (.cons (.lit (.int 1)) .nil)))) (.cmp .gt (.bi .len (.cons (.var 1) .nil)) (.lit (.int 1)))) (.cons (.set 5 (.bm .pop (.var 1) .nil))
  (.cons (.ex (.bm .append (.var 1) (.cons (.tup (.cons (.lit (.str [99, 97, 108, 108])) (.cons (.bm .pop (.var 1) .nil) (.cons (.var 5) .nil)))) .nil)))
  (.cons (.ret (.lit (.bl true)))
  .nil))) .nil)
  (.cons (.ret (.lit (.bl false)))
  .nil)))))))
/-- part_by(code, left, found, order) -/
abbrev s4 : Stmt := top 17
def ir4 : Stms :=
  (.cons (.ife (.or (.cmp .eq (.var 1) (.lit (.int 0))) (.or (.not (.isi (.var 0) .tuple)) (.cmp .gt (.bi .len (.cons (.var 0) .nil)) (.lit (.int 400))))) (.cons (.ret (.lit .non))
  .nil) .nil)
  (.cons (.set 2 (.lst .nil))
  (.cons (.for_ (.nm 3) (.sq (.var 0)) (.cons (.ife (.not (.call 3 (.cons (.var 3) (.cons (.var 2) (.cons (.var 1) .nil))))) (.cons (.ret (.lit .non))
  .nil) .nil)
  .nil))
  (.cons (.ife (.cmp .ne (.bi .len (.cons (.var 2) .nil)) (.lit (.int 1))) (.cons (.ret (.lit .non))
  .nil) .nil)
  (.cons (.ret (.ix (.var 2) (.lit (.int 0))))
  .nil)))))
/-- part_of_code(code, part, size, depth) -/
abbrev s5 : Stmt := top 18
def ir5 : Stms :=
  (.cons (.set 1 (.call 4 (.cons (.var 0) (.cons (.lit (.int 100)) .nil))))
  (.cons (.ife (.cmp .is_ (.var 1) (.lit .non)) (.cons (.raise 4 (.cons (.lit (.str [99, 111, 100, 101])) (.cons (.lit (.str [])) .nil)))
  .nil) .nil)
  (.cons (.unp [2, 3] (.call 2 (.cons (.var 1) .nil)))
  (.cons (.ife (.or (.cmp .gt (.var 2) (.lit (.int 400))) (.cmp .gt (.var 3) (.lit (.int 100)))) (.cons (.raise 4 (.cons (.lit (.str [99, 111, 100, 101])) (.cons (.lit (.str [])) .nil)))
  .nil) .nil)
  (.cons (.ret (.var 1))
  .nil)))))
/-- lines_of(code, found, order) -/
abbrev s6 : Stmt := top 21
def ir6 : Stms :=
  (.cons (.set 1 (.lst .nil))
  (.cons (.for_ (.nm 2) (.sq (.var 0)) (.cons (.ife (.cmp .eq (.ix (.var 2) (.lit (.int 0))) (.lit (.str [103, 101, 116]))) (.cons (.ex (.bm .append (.var 1) (.cons (.bin .add (.lit (.str [103, 101, 116, 32])) (.bi .str (.cons (.ix (.var 2) (.lit (.int 1))) .nil))) .nil)))
  .nil) (.cons (.ife (.cmp .eq (.ix (.var 2) (.lit (.int 0))) (.lit (.str [110, 97, 109, 101]))) (.cons (.ex (.bm .append (.var 1) (.cons (.bin .add (.lit (.str [110, 97, 109, 101, 32])) (.ix (.var 2) (.lit (.int 1)))) .nil)))
  .nil) (.cons (.ife (.cmp .eq (.ix (.var 2) (.lit (.int 0))) (.lit (.str [99, 97, 108, 108]))) (.cons (.ex (.bm .append (.var 1) (.cons (.lit (.str [99, 97, 108, 108])) .nil)))
  .nil) (.cons (.ex (.bm .append (.var 1) (.cons (.lit (.str [99, 108, 111, 115, 101])) .nil)))
  (.cons (.ex (.bm .extend (.var 1) (.cons (.call 6 (.cons (.ix (.var 2) (.lit (.int 1))) .nil)) .nil)))
  (.cons (.ex (.bm .append (.var 1) (.cons (.lit (.str [101, 110, 100])) .nil)))
  .nil))))
  .nil))
  .nil))
  .nil))
  (.cons (.ret (.var 1))
  .nil)))
/-- write_code(code) -/
abbrev s7 : Stmt := top 22
def ir7 : Stms :=
  (.cons (.ex (.call 5 (.cons (.var 0) .nil)))
  (.cons (.ret (.bm .join (.lit (.str [10])) (.cons (.call 6 (.cons (.var 0) .nil)) .nil)))
  .nil))
/-- number_in(word, sign) -/
abbrev s8 : Stmt := top 23
def ir8 : Stms :=
  (.cons (.ife (.or (.cmp .eq (.var 0) (.lit (.str []))) (.or (.cmp .gt (.bi .len (.cons (.var 0) .nil)) (.lit (.int 3))) (.not (.bi .all (.cons (.lc (.cmp .in_ (.var 1) (.lit (.str [48, 49, 50, 51, 52, 53, 54, 55, 56, 57]))) (.nm 1) (.sq (.var 0)) .none) .nil))))) (.cons (.ret (.lit .non))
  .nil) .nil)
  (.cons (.ife (.and (.cmp .gt (.bi .len (.cons (.var 0) .nil)) (.lit (.int 1))) (.cmp .eq (.ix (.var 0) (.lit (.int 0))) (.lit (.str [48])))) (.cons (.ret (.lit .non))
  .nil) .nil)
  (.cons (.ife (.cmp .gt (.bi .int (.cons (.var 0) .nil)) (.lit (.int 400))) (.cons (.ret (.lit .non))
  .nil) .nil)
  (.cons (.ret (.bi .int (.cons (.var 0) .nil)))
  .nil))))
/-- is_code(code, part, size, depth) -/
abbrev s9 : Stmt := top 26
def ir9 : Stms :=
  (.cons (.set 1 (.call 4 (.cons (.var 0) (.cons (.lit (.int 100)) .nil))))
  (.cons (.ife (.cmp .is_ (.var 1) (.lit .non)) (.cons (.ret (.lit (.bl false)))
  .nil) .nil)
  (.cons (.unp [2, 3] (.call 2 (.cons (.var 1) .nil)))
  (.cons (.ret (.and (.cmp .le (.var 2) (.lit (.int 400))) (.cmp .le (.var 3) (.lit (.int 100)))))
  .nil))))
/-- read_code(text, reading, lines, code, number, line) -/
abbrev s10 : Stmt := top 27
def ir10 : Stms :=
  (.cons (.ife (.or (.not (.isi (.var 0) .str)) (.cmp .gt (.bi .len (.cons (.var 0) .nil)) (.lit (.int 4000)))) (.cons (.raise 3 (.cons (.lit (.int 0)) .nil))
  .nil) .nil)
  (.cons (.set 1 (.new 1 .nil))
  (.cons (.set 2 (.bm .split (.var 0) (.cons (.lit (.str [10])) .nil)))
  (.cons (.for_ (.tp [4, 5]) (.enum (.var 2)) (.cons (.ife (.not (.mth 2 (.var 1) (.cons (.var 5) .nil))) (.cons (.raise 3 (.cons (.bin .add (.var 4) (.lit (.int 1))) .nil))
  .nil) .nil)
  .nil))
  (.cons (.set 3 (.bi .tuple (.cons (.att (.ix (.att (.var 1) 5) (.lit (.int 0))) 3) .nil)))
  (.cons (.ife (.or (.cmp .gt (.bi .len (.cons (.att (.var 1) 5) .nil)) (.lit (.int 1))) (.not (.call 9 (.cons (.var 3) .nil)))) (.cons (.raise 3 (.cons (.bi .len (.cons (.var 2) .nil)) .nil))
  .nil) .nil)
  (.cons (.ret (.var 3))
  .nil)))))))
/-- _law_tape(script, seed, cell) -/
abbrev s11 : Stmt := top 29
def ir11 : Stms :=
  (.cons (.set 1 (.lit (.int 7)))
  (.cons (.for_ (.nm 2) (.sq (.var 0)) (.cons (.set 1 (.bin .mod (.bi .int (.cons (.bin .add (.bin .mul (.var 1) (.lit (.int 31))) (.var 2)) .nil)) (.lit (.int 1000003))))
  .nil))
  (.cons (.ret (.lst (.cons (.lc (.bi .abs (.cons (.bi .int (.cons (.var 2) .nil)) .nil)) (.nm 2) (.sq (.var 0)) .none) (.cons (.bin .add (.var 1) (.lit (.int 1))) .nil))))
  .nil)))
/-- _law_draw(tape, many, cells, number) -/
abbrev s12 : Stmt := top 30
def ir12 : Stms :=
  (.cons (.set 2 (.ix (.var 0) (.lit (.int 0))))
  (.cons (.whl (.and (.cmp .gt (.bi .len (.cons (.var 2) .nil)) (.lit (.int 0))) (.cmp .eq (.ix (.var 2) (.lit (.int 0))) (.lit (.int 0)))) (.cons (.ex (.bm .pop (.var 2) (.cons (.lit (.int 0)) .nil)))
  .nil))
  (.cons (.ife (.cmp .gt (.bi .len (.cons (.var 2) .nil)) (.lit (.int 0))) (.cons (.set 3 (.ix (.var 2) (.lit (.int 0))))
  (.cons (.setix (.var 2) (.lit (.int 0)) (.bin .fdiv (.var 3) (.var 1)))
  (.cons (.ret (.bin .mod (.bi .int (.cons (.var 3) .nil)) (.var 1)))
  .nil))) .nil)
  (.cons (.setix (.var 0) (.lit (.int 1)) (.bin .mod (.bi .int (.cons (.bin .add (.bin .mul (.ix (.var 0) (.lit (.int 1))) (.lit (.int 48271))) (.lit (.int 12345))) .nil)) (.lit (.int 2147483647))))
  (.cons (.ret (.bin .mod (.bi .int (.cons (.bin .fdiv (.ix (.var 0) (.lit (.int 1))) (.lit (.int 64))) .nil)) (.var 1)))
  .nil)))))
/-- _law_pick(tape, row) -/
abbrev s13 : Stmt := top 31
def ir13 : Stms :=
  (.cons (.ret (.ix (.var 1) (.call 12 (.cons (.var 0) (.cons (.bi .len (.cons (.var 1) .nil)) .nil)))))
  .nil)
/-- _law_same(told, due, k) -/
abbrev s14 : Stmt := top 32
def ir14 : Stms :=
  (.cons (.ife (.cmp .is_ (.var 1) (.lit .non)) (.cons (.ret (.cmp .is_ (.var 0) (.lit .non)))
  .nil) .nil)
  (.cons (.ife (.isi (.var 1) .bool) (.cons (.ret (.and (.isi (.var 0) .bool) (.cmp .eq (.var 0) (.var 1))))
  .nil) .nil)
  (.cons (.ife (.isi (.var 1) .int) (.cons (.ret (.and (.isi (.var 0) .int) (.and (.not (.isi (.var 0) .bool)) (.cmp .eq (.var 0) (.var 1)))))
  .nil) .nil)
  (.cons (.ife (.isi (.var 1) .str) (.cons (.ret (.and (.isi (.var 0) .str) (.cmp .eq (.var 0) (.var 1))))
  .nil) .nil)
  (.cons (.ife (.or (.cmp .ne (.isi (.var 1) .tuple) (.isi (.var 0) .tuple)) (.cmp .ne (.isi (.var 1) .list) (.isi (.var 0) .list))) (.cons (.ret (.lit (.bl false)))
  .nil) .nil)
  (.cons (.ife (.or (.not (.isi2 (.var 0) .tuple .list)) (.cmp .ne (.bi .len (.cons (.var 0) .nil)) (.bi .len (.cons (.var 1) .nil)))) (.cons (.ret (.lit (.bl false)))
  .nil) .nil)
  (.cons (.ret (.cmp .notin (.lit (.bl false)) (.lc (.call 14 (.cons (.ix (.var 0) (.var 2)) (.cons (.ix (.var 1) (.var 2)) .nil))) (.nm 2) (.rng (.bi .len (.cons (.var 1) .nil))) .none)))
  .nil)))))))
/-- _law_part(tape, around, size, pick, left) -/
abbrev s15 : Stmt := top 33
def ir15 : Stms :=
  (.cons (.set 3 (.call 12 (.cons (.var 0) (.cons (.lit (.int 8)) .nil))))
  (.cons (.ife (.or (.cmp .lt (.var 2) (.lit (.int 2))) (.cmp .eq (.var 3) (.lit (.int 0)))) (.cons (.ife (.and (.cmp .gt (.var 1) (.lit (.int 0))) (.cmp .gt (.call 12 (.cons (.var 0) (.cons (.lit (.int 7)) .nil))) (.lit (.int 0)))) (.cons (.ret (.tup (.cons (.lit (.str [97, 116])) (.cons (.call 12 (.cons (.var 0) (.cons (.var 1) .nil))) .nil))))
  .nil) .nil)
  (.cons (.ret (.tup (.cons (.lit (.str [110, 97, 109, 101])) (.cons (.call 13 (.cons (.var 0) (.cons (.lst (.cons (.lit (.str [97])) (.cons (.lit (.str [98])) (.cons (.lit (.str [122, 49])) .nil)))) .nil))) .nil))))
  .nil)) .nil)
  (.cons (.ife (.cmp .lt (.var 3) (.lit (.int 4))) (.cons (.ret (.tup (.cons (.lit (.str [102, 117, 110])) (.cons (.call 15 (.cons (.var 0) (.cons (.bin .add (.var 1) (.lit (.int 1))) (.cons (.bin .sub (.var 2) (.lit (.int 1))) .nil)))) .nil))))
  .nil) .nil)
  (.cons (.set 4 (.bin .add (.lit (.int 1)) (.call 12 (.cons (.var 0) (.cons (.bin .sub (.var 2) (.lit (.int 1))) .nil)))))
  (.cons (.ret (.tup (.cons (.lit (.str [99, 97, 108, 108])) (.cons (.call 15 (.cons (.var 0) (.cons (.var 1) (.cons (.var 4) .nil)))) (.cons (.call 15 (.cons (.var 0) (.cons (.var 1) (.cons (.bin .sub (.var 2) (.var 4)) .nil)))) .nil)))))
  .nil)))))
/-- _law_code(part) -/
abbrev s16 : Stmt := top 34
def ir16 : Stms :=
  (.cons (.ife (.cmp .eq (.ix (.var 0) (.lit (.int 0))) (.lit (.str [97, 116]))) (.cons (.ret (.tup (.cons (.tup (.cons (.lit (.str [103, 101, 116])) (.cons (.ix (.var 0) (.lit (.int 1))) .nil))) .nil)))
  .nil) .nil)
  (.cons (.ife (.cmp .eq (.ix (.var 0) (.lit (.int 0))) (.lit (.str [110, 97, 109, 101]))) (.cons (.ret (.tup (.cons (.tup (.cons (.lit (.str [110, 97, 109, 101])) (.cons (.ix (.var 0) (.lit (.int 1))) .nil))) .nil)))
  .nil) .nil)
  (.cons (.ife (.cmp .eq (.ix (.var 0) (.lit (.int 0))) (.lit (.str [102, 117, 110]))) (.cons (.ret (.tup (.cons (.tup (.cons (.lit (.str [99, 108, 111, 115, 101])) (.cons (.call 16 (.cons (.ix (.var 0) (.lit (.int 1))) .nil)) .nil))) .nil)))
  .nil) .nil)
  (.cons (.ret (.bin .add (.bin .add (.call 16 (.cons (.ix (.var 0) (.lit (.int 1))) .nil)) (.call 16 (.cons (.ix (.var 0) (.lit (.int 2))) .nil))) (.tup (.cons (.tup (.cons (.lit (.str [99, 97, 108, 108])) .nil)) .nil))))
  .nil))))
/-- _law_call(call, value, error, told) -/
abbrev s17 : Stmt := top 35
def ir17 : Stms :=
  (.cons (.try_ (.cons (.set 3 (.callv 0 (.cons (.var 1) .nil)))
  .nil) [(3, .ret (.exf 2 0)), (4, .ret (.exf2 2 1 2))])
  (.cons (.ret (.var 3))
  .nil))
/-- _law_lines(code, found, order, one) -/
abbrev s18 : Stmt := top 36
def ir18 : Stms :=
  (.cons (.set 1 (.lst .nil))
  (.cons (.for_ (.nm 2) (.sq (.var 0)) (.cons (.ife (.cmp .eq (.ix (.var 2) (.lit (.int 0))) (.lit (.str [99, 108, 111, 115, 101]))) (.cons (.set 1 (.bin .add (.bin .add (.bin .add (.var 1) (.lst (.cons (.lit (.str [99, 108, 111, 115, 101])) .nil))) (.call 18 (.cons (.ix (.var 2) (.lit (.int 1))) .nil))) (.lst (.cons (.lit (.str [101, 110, 100])) .nil))))
  .nil) (.cons (.set 1 (.bin .add (.var 1) (.lst (.cons (.bm .join (.lit (.str [32])) (.cons (.lc (.bi .str (.cons (.var 3) .nil)) (.nm 3) (.sq (.var 2)) .none) .nil)) .nil))))
  .nil))
  .nil))
  (.cons (.ret (.var 1))
  .nil)))
/-- _law_order(line, parts, letters, sign) -/
abbrev s19 : Stmt := top 37
def ir19 : Stms :=
  (.cons (.set 1 (.bm .split (.var 0) (.cons (.lit (.str [32])) .nil)))
  (.cons (.ife (.or (.cmp .ne (.bi .len (.cons (.var 1) .nil)) (.lit (.int 2))) (.cmp .eq (.ix (.var 1) (.lit (.int 1))) (.lit (.str [])))) (.cons (.ret (.lit .non))
  .nil) .nil)
  (.cons (.set 2 (.lit (.str [97, 98, 99, 100, 101, 102, 103, 104, 105, 106, 107, 108, 109, 110, 111, 112, 113, 114, 115, 116, 117, 118, 119, 120, 121, 122])))
  (.cons (.ife (.cmp .eq (.ix (.var 1) (.lit (.int 0))) (.lit (.str [103, 101, 116]))) (.cons (.ife (.or (.cmp .gt (.bi .len (.cons (.lc (.var 3) (.nm 3) (.sq (.ix (.var 1) (.lit (.int 1)))) (.some (.cmp .notin (.var 3) (.lit (.str [48, 49, 50, 51, 52, 53, 54, 55, 56, 57]))))) .nil)) (.lit (.int 0))) (.or (.cmp .gt (.bi .len (.cons (.ix (.var 1) (.lit (.int 1))) .nil)) (.lit (.int 3))) (.and (.cmp .gt (.bi .len (.cons (.ix (.var 1) (.lit (.int 1))) .nil)) (.lit (.int 1))) (.cmp .eq (.ix (.ix (.var 1) (.lit (.int 1))) (.lit (.int 0))) (.lit (.str [48])))))) (.cons (.ret (.lit .non))
  .nil) .nil)
  (.cons (.ret (.ite (.cmp .le (.bi .int (.cons (.ix (.var 1) (.lit (.int 1))) .nil)) (.lit (.int 400))) (.tup (.cons (.lit (.str [103, 101, 116])) (.cons (.bi .int (.cons (.ix (.var 1) (.lit (.int 1))) .nil)) .nil))) (.lit .non)))
  .nil)) .nil)
  (.cons (.ife (.or (.cmp .ne (.ix (.var 1) (.lit (.int 0))) (.lit (.str [110, 97, 109, 101]))) (.or (.cmp .notin (.ix (.ix (.var 1) (.lit (.int 1))) (.lit (.int 0))) (.var 2)) (.or (.cmp .gt (.bi .len (.cons (.ix (.var 1) (.lit (.int 1))) .nil)) (.lit (.int 12))) (.cmp .in_ (.ix (.var 1) (.lit (.int 1))) (.tup (.cons (.lit (.str [108, 101, 116])) (.cons (.lit (.str [105, 110])) .nil))))))) (.cons (.ret (.lit .non))
  .nil) .nil)
  (.cons (.ret (.ite (.cmp .eq (.bi .len (.cons (.lc (.var 3) (.nm 3) (.sq (.ix (.var 1) (.lit (.int 1)))) (.some (.cmp .notin (.var 3) (.bin .add (.var 2) (.lit (.str [48, 49, 50, 51, 52, 53, 54, 55, 56, 57])))))) .nil)) (.lit (.int 0))) (.tup (.cons (.lit (.str [110, 97, 109, 101])) (.cons (.ix (.var 1) (.lit (.int 1))) .nil))) (.lit .non)))
  .nil))))))
/-- _law_read(lines, rows, many, k, code, order) -/
abbrev s20 : Stmt := top 38
def ir20 : Stms :=
  (.cons (.set 1 (.lst (.cons (.lst .nil) .nil)))
  (.cons (.set 2 (.lst (.cons (.lit (.int 0)) .nil)))
  (.cons (.for_ (.nm 3) (.rng (.bi .len (.cons (.var 0) .nil))) (.cons (.ife (.cmp .eq (.ix (.var 0) (.var 3)) (.lit (.str [99, 97, 108, 108]))) (.cons (.ife (.cmp .lt (.ix (.var 2) (.neg (.lit (.int 1)))) (.lit (.int 2))) (.cons (.ret (.bin .add (.var 3) (.lit (.int 1))))
  .nil) .nil)
  (.cons (.ex (.bm .append (.ix (.var 1) (.neg (.lit (.int 1)))) (.cons (.tup (.cons (.lit (.str [99, 97, 108, 108])) .nil)) .nil)))
  (.cons (.setix (.var 2) (.neg (.lit (.int 1))) (.bin .sub (.ix (.var 2) (.neg (.lit (.int 1)))) (.lit (.int 1))))
  .nil))) (.cons (.ife (.cmp .eq (.ix (.var 0) (.var 3)) (.lit (.str [99, 108, 111, 115, 101]))) (.cons (.ex (.bm .append (.var 1) (.cons (.lst .nil) .nil)))
  (.cons (.ex (.bm .append (.var 2) (.cons (.lit (.int 0)) .nil)))
  .nil)) (.cons (.ife (.cmp .eq (.ix (.var 0) (.var 3)) (.lit (.str [101, 110, 100]))) (.cons (.ife (.or (.cmp .eq (.bi .len (.cons (.var 1) .nil)) (.lit (.int 1))) (.cmp .ne (.ix (.var 2) (.neg (.lit (.int 1)))) (.lit (.int 1)))) (.cons (.ret (.bin .add (.var 3) (.lit (.int 1))))
  .nil) .nil)
  (.cons (.set 4 (.bi .tuple (.cons (.bm .pop (.var 1) .nil) .nil)))
  (.cons (.ex (.bm .pop (.var 2) .nil))
  (.cons (.ex (.bm .append (.ix (.var 1) (.neg (.lit (.int 1)))) (.cons (.tup (.cons (.lit (.str [99, 108, 111, 115, 101])) (.cons (.var 4) .nil))) .nil)))
  (.cons (.setix (.var 2) (.neg (.lit (.int 1))) (.bin .add (.ix (.var 2) (.neg (.lit (.int 1)))) (.lit (.int 1))))
  .nil))))) (.cons (.set 5 (.call 19 (.cons (.ix (.var 0) (.var 3)) .nil)))
  (.cons (.ife (.cmp .is_ (.var 5) (.lit .non)) (.cons (.ret (.bin .add (.var 3) (.lit (.int 1))))
  .nil) .nil)
  (.cons (.ex (.bm .append (.ix (.var 1) (.neg (.lit (.int 1)))) (.cons (.var 5) .nil)))
  (.cons (.setix (.var 2) (.neg (.lit (.int 1))) (.bin .add (.ix (.var 2) (.neg (.lit (.int 1)))) (.lit (.int 1))))
  .nil)))))
  .nil))
  .nil))
  .nil))
  (.cons (.ret (.ite (.and (.cmp .eq (.bi .len (.cons (.var 1) .nil)) (.lit (.int 1))) (.cmp .eq (.ix (.var 2) (.lit (.int 0))) (.lit (.int 1)))) (.bi .tuple (.cons (.ix (.var 1) (.lit (.int 0))) .nil)) (.bi .len (.cons (.var 0) .nil))))
  .nil))))
/-- law(script, tape, turn, code, lines, text, again, k, other, near) -/
abbrev s21 : Stmt := top 39
def ir21 : Stms :=
  (.cons (.set 1 (.call 11 (.cons (.var 0) .nil)))
  (.cons (.for_ (.nm 2) (.rng (.lit (.int 4))) (.cons (.set 3 (.call 16 (.cons (.call 15 (.cons (.var 1) (.cons (.call 12 (.cons (.var 1) (.cons (.lit (.int 4)) .nil))) (.cons (.bin .add (.lit (.int 2)) (.call 12 (.cons (.var 1) (.cons (.lit (.int 24)) .nil)))) .nil)))) .nil)))
  (.cons (.set 4 (.call 18 (.cons (.var 3) .nil)))
  (.cons (.set 5 (.bm .join (.lit (.str [10])) (.cons (.var 4) .nil)))
  (.cons (.ife (.or (.not (.call 14 (.cons (.call 17 (.cons (.lit (.fn 7)) (.cons (.var 3) .nil))) (.cons (.var 5) .nil)))) (.not (.call 14 (.cons (.call 17 (.cons (.lit (.fn 10)) (.cons (.var 5) .nil))) (.cons (.var 3) .nil))))) (.cons (.ret (.lit (.bl false)))
  .nil) .nil)
  (.cons (.for_ (.nm 6) (.rng (.lit (.int 4))) (.cons (.set 7 (.call 12 (.cons (.var 1) (.cons (.bi .len (.cons (.var 4) .nil)) .nil))))
  (.cons (.set 8 (.call 13 (.cons (.var 1) (.cons (.bin .add (.var 4) (.lst (.cons (.lit (.str [103, 101, 116, 32, 48, 49])) (.cons (.lit (.str [103, 101, 116, 32, 52, 48, 48])) (.cons (.lit (.str [103, 101, 116, 32, 52, 48, 49])) (.cons (.lit (.str [103, 101, 116])) (.cons (.lit (.str [103, 101, 116, 32, 32, 49])) (.cons (.lit (.str [110, 97, 109, 101, 32, 65])) (.cons (.lit (.str [110, 97, 109, 101, 32, 108, 101, 116])) (.cons (.lit (.str [110, 97, 109, 101, 32, 98, 55])) (.cons (.lit (.str [32, 99, 97, 108, 108])) (.cons (.lit (.str [99, 97, 108, 108, 32])) (.cons (.lit (.str [67, 108, 111, 115, 101])) (.cons (.lit (.str [101, 110, 100])) (.cons (.lit (.str [])) (.cons (.lit (.str [103, 101, 116, 32, 45, 49])) (.cons (.lit (.str [103, 101, 116, 32, 49, 32])) .nil))))))))))))))))) .nil))))
  (.cons (.set 9 (.call 13 (.cons (.var 1) (.cons (.lst (.cons (.bin .add (.slc (.var 4) .none (.some (.var 7))) (.slc (.var 4) (.some (.bin .add (.var 7) (.lit (.int 1)))) .none)) (.cons (.bin .add (.bin .add (.slc (.var 4) .none (.some (.var 7))) (.lst (.cons (.var 8) .nil))) (.slc (.var 4) (.some (.var 7)) .none)) (.cons (.bin .add (.bin .add (.slc (.var 4) .none (.some (.var 7))) (.lst (.cons (.var 8) .nil))) (.slc (.var 4) (.some (.bin .add (.var 7) (.lit (.int 1)))) .none)) (.cons (.bin .add (.var 4) (.lst (.cons (.lit (.str [101, 110, 100])) .nil))) (.cons (.rev (.var 4)) .nil)))))) .nil))))
  (.cons (.set 9 (.ite (.cmp .gt (.bi .len (.cons (.var 9) .nil)) (.lit (.int 0))) (.var 9) (.lst (.cons (.lit (.str [])) .nil))))
  (.cons (.ife (.not (.call 14 (.cons (.call 17 (.cons (.lit (.fn 10)) (.cons (.bm .join (.lit (.str [10])) (.cons (.var 9) .nil)) .nil))) (.cons (.call 20 (.cons (.var 9) .nil)) .nil)))) (.cons (.ret (.lit (.bl false)))
  .nil) .nil)
  .nil))))))
  (.cons (.ife (.cmp .ne (.call 17 (.cons (.lit (.fn 10)) (.cons (.call 13 (.cons (.var 1) (.cons (.lst (.cons (.lit .non) (.cons (.lit (.int 5)) (.cons (.var 4) (.cons (.bin .mul (.lit (.str [97])) (.lit (.int 4001))) .nil))))) .nil))) .nil))) (.lit (.int 0))) (.cons (.ret (.lit (.bl false)))
  .nil) .nil)
  (.cons (.ife (.not (.call 14 (.cons (.call 17 (.cons (.lit (.fn 7)) (.cons (.call 13 (.cons (.var 1) (.cons (.lst (.cons (.lit .non) (.cons (.bi .list (.cons (.var 3) .nil)) (.cons (.tup .nil) (.cons (.bin .add (.var 3) (.tup (.cons (.tup (.cons (.lit (.str [99, 97, 108, 108])) .nil)) .nil))) (.cons (.tup (.cons (.tup (.cons (.lit (.str [103, 101, 116])) (.cons (.lit (.bl true)) .nil))) .nil)) .nil)))))) .nil))) .nil))) (.cons (.tup (.cons (.lit (.str [99, 111, 100, 101])) (.cons (.lit (.str [])) .nil))) .nil)))) (.cons (.ret (.lit (.bl false)))
  .nil) .nil)
  .nil))))))))
  (.cons (.ret (.lit (.bl true)))
  .nil)))
/-- Open.__init__(self) -/
abbrev s22 : Stmt := inClass (top 24) 0
def ir22 : Stms :=
  (.cons (.setat (.var 0) 3 (.lst .nil))
  (.cons (.setat (.var 0) 4 (.lit (.int 0)))
  .nil))
/-- Open.take(self, order) -/
abbrev s23 : Stmt := inClass (top 24) 1
def ir23 : Stms :=
  (.cons (.ex (.bm .append (.att (.var 0) 3) (.cons (.var 1) .nil)))
  (.cons (.augat (.var 0) 4 .add (.lit (.int 1)))
  .nil))
/-- Reading.__init__(self) -/
abbrev s24 : Stmt := inClass (top 25) 0
def ir24 : Stms :=
  (.cons (.setat (.var 0) 5 (.lst (.cons (.new 0 .nil) .nil)))
  .nil)
/-- Reading.is_read(self, line, now, number) -/
abbrev s25 : Stmt := inClass (top 25) 1
def ir25 : Stms :=
  (.cons (.set 2 (.ix (.att (.var 0) 5) (.neg (.lit (.int 1)))))
  (.cons (.ife (.cmp .eq (.var 1) (.lit (.str [99, 97, 108, 108]))) (.cons (.ex (.bm .append (.att (.var 2) 3) (.cons (.tup (.cons (.lit (.str [99, 97, 108, 108])) .nil)) .nil)))
  (.cons (.augat (.var 2) 4 .sub (.lit (.int 1)))
  (.cons (.ret (.cmp .gt (.att (.var 2) 4) (.lit (.int 0))))
  .nil))) .nil)
  (.cons (.ife (.cmp .eq (.var 1) (.lit (.str [99, 108, 111, 115, 101]))) (.cons (.ex (.bm .append (.att (.var 0) 5) (.cons (.new 0 .nil) .nil)))
  (.cons (.ret (.lit (.bl true)))
  .nil)) .nil)
  (.cons (.ife (.cmp .eq (.var 1) (.lit (.str [101, 110, 100]))) (.cons (.ret (.mth 3 (.var 0) .nil))
  .nil) .nil)
  (.cons (.ife (.bm .startswith (.var 1) (.cons (.lit (.str [103, 101, 116, 32])) .nil)) (.cons (.set 3 (.call 8 (.cons (.slc (.var 1) (.some (.lit (.int 4))) .none) .nil)))
  (.cons (.ex (.mth 1 (.var 2) (.cons (.tup (.cons (.lit (.str [103, 101, 116])) (.cons (.var 3) .nil))) .nil)))
  (.cons (.ret (.cmp .isnot (.var 3) (.lit .non)))
  .nil))) .nil)
  (.cons (.ex (.mth 1 (.var 2) (.cons (.tup (.cons (.lit (.str [110, 97, 109, 101])) (.cons (.slc (.var 1) (.some (.lit (.int 5))) .none) .nil))) .nil)))
  (.cons (.ret (.and (.bm .startswith (.var 1) (.cons (.lit (.str [110, 97, 109, 101, 32])) .nil)) (.call 1 (.cons (.slc (.var 1) (.some (.lit (.int 5))) .none) .nil))))
  .nil)))))))
/-- Reading.is_ended(self, code) -/
abbrev s26 : Stmt := inClass (top 25) 2
def ir26 : Stms :=
  (.cons (.ife (.or (.cmp .eq (.bi .len (.cons (.att (.var 0) 5) .nil)) (.lit (.int 1))) (.cmp .ne (.att (.ix (.att (.var 0) 5) (.neg (.lit (.int 1)))) 4) (.lit (.int 1)))) (.cons (.ret (.lit (.bl false)))
  .nil) .nil)
  (.cons (.set 1 (.bi .tuple (.cons (.att (.bm .pop (.att (.var 0) 5) .nil) 3) .nil)))
  (.cons (.ex (.mth 1 (.ix (.att (.var 0) 5) (.neg (.lit (.int 1)))) (.cons (.tup (.cons (.lit (.str [99, 108, 111, 115, 101])) (.cons (.var 1) .nil))) .nil)))
  (.cons (.ret (.lit (.bl true)))
  .nil))))
abbrev x3 : Stmt := inClass (top 2) 0
abbrev x4 : Stmt := inClass (top 3) 0
def fld : Nat → Str
  | 0 => "line"
  | 1 => "kind"
  | 2 => "name"
  | 3 => "orders"
  | 4 => "many"
  | 5 => "rows"
  | _ => "?"
def mn : Nat → Str
  | 0 => "__init__"
  | 1 => "take"
  | 2 => "is_read"
  | 3 => "is_ended"
  | _ => "?"
def fnn : Nat → Str
  | 0 => "is_integer"
  | 1 => "is_name"
  | 2 => "measured"
  | 3 => "parted"
  | 4 => "part_by"
  | 5 => "part_of_code"
  | 6 => "lines_of"
  | 7 => "write_code"
  | 8 => "number_in"
  | 9 => "is_code"
  | 10 => "read_code"
  | 11 => "_law_tape"
  | 12 => "_law_draw"
  | 13 => "_law_pick"
  | 14 => "_law_same"
  | 15 => "_law_part"
  | 16 => "_law_code"
  | 17 => "_law_call"
  | 18 => "_law_lines"
  | 19 => "_law_order"
  | 20 => "_law_read"
  | 21 => "law"
  | _ => "?"
def cln : Nat → Str
  | 0 => "Open"
  | 1 => "Reading"
  | 2 => "TermError"
  | 3 => "BadText"
  | 4 => "BadKind"
  | _ => "?"
def con : Nat → Option (Str × D)
  | 0 => some ("MOST_SOURCE", (.int 4000))
  | 1 => some ("MOST_SIZE", (.int 400))
  | 2 => some ("MOST_DEEP", (.int 100))
  | 3 => some ("MOST_NAME", (.int 12))
  | 4 => some ("WORDS", (.tup [(.str [108, 101, 116]), (.str [105, 110])]))
  | 5 => some ("LOWER", (.str [97, 98, 99, 100, 101, 102, 103, 104, 105, 106, 107, 108, 109, 110, 111, 112, 113, 114, 115, 116, 117, 118, 119, 120, 121, 122]))
  | 6 => some ("DIGITS_terms", (.str [48, 49, 50, 51, 52, 53, 54, 55, 56, 57]))
  | 7 => some ("DIGITS_codetext", (.str [48, 49, 50, 51, 52, 53, 54, 55, 56, 57]))
  | _ => none
def irs : Nat → Option (Nat × Nat × Stms)
  | 0 => some (3, 3, ir0)
  | 1 => some (2, 1, ir1)
  | 2 => some (6, 1, ir2)
  | 3 => some (6, 3, ir3)
  | 4 => some (4, 2, ir4)
  | 5 => some (4, 1, ir5)
  | 6 => some (3, 1, ir6)
  | 7 => some (1, 1, ir7)
  | 8 => some (2, 1, ir8)
  | 9 => some (4, 1, ir9)
  | 10 => some (6, 1, ir10)
  | 11 => some (3, 1, ir11)
  | 12 => some (4, 2, ir12)
  | 13 => some (2, 2, ir13)
  | 14 => some (3, 2, ir14)
  | 15 => some (5, 3, ir15)
  | 16 => some (1, 1, ir16)
  | 17 => some (4, 2, ir17)
  | 18 => some (4, 1, ir18)
  | 19 => some (4, 1, ir19)
  | 20 => some (6, 1, ir20)
  | 21 => some (10, 1, ir21)
  | 22 => some (1, 1, ir22)
  | 23 => some (2, 2, ir23)
  | 24 => some (1, 1, ir24)
  | 25 => some (4, 2, ir25)
  | 26 => some (2, 1, ir26)
  | _ => none
def io : Nat → Option Nat
  | 0 => some 22
  | 1 => some 24
  | _ => none
def mt : Nat → Nat → Option Nat
  | 0, 0 => some 22
  | 0, 1 => some 23
  | 1, 0 => some 24
  | 1, 2 => some 25
  | 1, 3 => some 26
  | _, _ => none
def xfl : Nat → List Nat
  | 3 => [0]
  | 4 => [1, 2]
  | _ => []
def xsub : Nat → Nat → Bool
  | 2, 2 => true
  | 3, 2 => true
  | 3, 3 => true
  | 4, 2 => true
  | 4, 4 => true
  | _, _ => false
def ni : Nat → Bool
  | _ => false
def prg : Prg := ⟨irs, io, mt, xfl, xsub, 22⟩
theorem fld_inj0 : ∀ i, i < 6 → ∀ j, j < 6 → fld i = fld j → i = j := by decide +kernel
theorem fld_inj : ∀ i j, i < 6 → j < 6 → fld i = fld j → i = j := fun i j hi hj => fld_inj0 i hi j hj
def nob : List Str := ["isinstance", "int", "bool", "all", "str", "len", "max", "tuple", "enumerate", "abs", "range", "list"]
def mkZ (K : PySem.W.Frag) (cla fa : Nat → Addr) : Nm := { K := K, fld := fld, cla := cla, fa := fa, mn := mn, nc := 2, nx := 5, nf := 6, nfx := 3, fnn := fnn, cln := cln, nob := nob, con := con, nfn := 22, xfl := xfl, ni := ni, inj := fld_inj }
section
variable {X : Cx} {K : PySem.W.Frag} {cla fa : Nat → Addr} {n k : Nat} {W : WX}
theorem d0 {P : Program} {w : World} {mg : Str → Option Value} {base : Heap} {f : Addr} {cdv : Value} {A0 : Around} {outer : List PySem.Env} {s : Shared} {H : Hp} {E : XK} (M : Mx (cxOf (L2.CX P w) P w K mg base ["value", "low", "high"] "is_integer" (defScope s0) f cdv A0 outer s H E) (mkZ K cla fa) (lvl prg n) (k + 2) W false) (A : XA (cxOf (L2.CX P w) P w K mg base ["value", "low", "high"] "is_integer" (defScope s0) f cdv A0 outer s H E) (mkZ K cla fa) (lvl prg n)) :
    MB (cxOf (L2.CX P w) P w K mg base ["value", "low", "high"] "is_integer" (defScope s0) f cdv A0 outer s H E) (mkZ K cla fa) (lvl prg n) W (defBody s0) ir0 :=
  (mb_cons M (ms_ret M (me_and M (me_isi M (me_var M 0)) (me_and M (me_not M (me_isi M (me_var M 0))) (me_one M (me_chn M (me_var M 1) (me_var M 0) (me_var M 2))))))
  (mb_nil M))
theorem d1 {P : Program} {w : World} {mg : Str → Option Value} {base : Heap} {f : Addr} {cdv : Value} {A0 : Around} {outer : List PySem.Env} {s : Shared} {H : Hp} {E : XK} (M : Mx (cxOf (L2.CX P w) P w K mg base ["value", "sign"] "is_name" (defScope s1) f cdv A0 outer s H E) (mkZ K cla fa) (lvl prg n) (k + 2) W false) (A : XA (cxOf (L2.CX P w) P w K mg base ["value", "sign"] "is_name" (defScope s1) f cdv A0 outer s H E) (mkZ K cla fa) (lvl prg n)) :
    MB (cxOf (L2.CX P w) P w K mg base ["value", "sign"] "is_name" (defScope s1) f cdv A0 outer s H E) (mkZ K cla fa) (lvl prg n) W (defBody s1) ir1 :=
  (mb_cons M (ms_ife M (mt_w M (mw_or M (mt_not M (mt_of M (me_isi M (me_var M 0)))) (mw_or M (mt_not M (mt_chn M (me_int M) (me_bi M (ma_cons M (me_var M 0) (ma_nil M))) (me_con M 3))) (mw_or1 M (mt_cmp M (me_var M 0) (me_con M 4)))))) (mb_cons M (ms_ret M (me_bl M))
  (mb_nil M)) (mb_nil M))
  (mb_cons M (ms_ret M (me_and M (me_cmp M (me_ix M (me_var M 0) (me_int M)) (me_con M 5)) (me_one M (me_bi M (ma_cons M (me_lc M [("sign", 1)] (mi_sq M (me_slc M (me_var M 0) (mo_some M (me_int M)) (mo_none M))) (fun _ _ _ _ _ M => (mg_name M 1)) (fun _ _ _ _ _ M => mc_none) (fun _ _ _ _ _ M => (me_or M (me_cmp M (me_var M 1) (me_con M 5)) (me_one M (me_cmp M (me_var M 1) (me_con M 6)))))) (ma_nil M))))))
  (mb_nil M)))
theorem d2 {P : Program} {w : World} {mg : Str → Option Value} {base : Heap} {f : Addr} {cdv : Value} {A0 : Around} {outer : List PySem.Env} {s : Shared} {H : Hp} {E : XK} (M : Mx (cxOf (L2.CX P w) P w K mg base ["term", "rows", "many", "most", "one", "deep"] "measured" (defScope s2) f cdv A0 outer s H E) (mkZ K cla fa) (lvl prg n) (k + 2) W false) (A : XA (cxOf (L2.CX P w) P w K mg base ["term", "rows", "many", "most", "one", "deep"] "measured" (defScope s2) f cdv A0 outer s H E) (mkZ K cla fa) (lvl prg n)) :
    MB (cxOf (L2.CX P w) P w K mg base ["term", "rows", "many", "most", "one", "deep"] "measured" (defScope s2) f cdv A0 outer s H E) (mkZ K cla fa) (lvl prg n) W (defBody s2) ir2 :=
  (mb_cons M (ms_set M 1 (me_lst M (ma_cons M (me_tup M (ma_cons M (me_var M 0) (ma_cons M (me_int M) (ma_nil M)))) (ma_nil M))))
  (mb_cons M (ms_set M 2 (me_int M))
  (mb_cons M (ms_set M 3 (me_int M))
  (mb_cons M (ms_whl M (mt_cmp M (me_var M 1) (me_lst M (ma_nil M))) (mb_cons M (ms_unp M (mg_tup M (mg_cons M (mg_cons M (mg_nil M)))) (me_pop M (me_var M 1)))
  (mb_cons M (ms_aug M 2 (me_int M))
  (mb_cons M (ms_set M 3 (me_bi M (ma_cons M (me_var M 3) (ma_cons M (me_var M 5) (ma_nil M)))))
  (mb_cons M (ms_ife M (mt_cmp M (me_ix M (me_var M 4) (me_int M)) (me_str M)) (mb_cons M (ms_ex M (me_append M (me_var M 1) (me_tup M (ma_cons M (me_ix M (me_var M 4) (me_int M)) (ma_cons M (me_bin M (me_var M 5) (me_int M)) (ma_nil M))))))
  (mb_nil M)) (mb_cons M (ms_ife M (mt_cmp M (me_ix M (me_var M 4) (me_int M)) (me_str M)) (mb_cons M (ms_ex M (me_append M (me_var M 1) (me_tup M (ma_cons M (me_ix M (me_var M 4) (me_int M)) (ma_cons M (me_bin M (me_var M 5) (me_int M)) (ma_nil M))))))
  (mb_cons M (ms_ex M (me_append M (me_var M 1) (me_tup M (ma_cons M (me_ix M (me_var M 4) (me_int M)) (ma_cons M (me_bin M (me_var M 5) (me_int M)) (ma_nil M))))))
  (mb_nil M))) (mb_nil M))
  (mb_nil M)))
  (mb_nil M))))))
  (mb_cons M (ms_ret M (me_tup M (ma_cons M (me_var M 2) (ma_cons M (me_var M 3) (ma_nil M)))))
  (mb_nil M))))))
theorem d3 {P : Program} {w : World} {mg : Str → Option Value} {base : Heap} {f : Addr} {cdv : Value} {A0 : Around} {outer : List PySem.Env} {s : Shared} {H : Hp} {E : XK} (M : Mx (cxOf (L2.CX P w) P w K mg base ["order", "found", "left", "form", "body", "argument"] "parted" (defScope s3) f cdv A0 outer s H E) (mkZ K cla fa) (lvl prg n) (k + 2) W false) (A : XA (cxOf (L2.CX P w) P w K mg base ["order", "found", "left", "form", "body", "argument"] "parted" (defScope s3) f cdv A0 outer s H E) (mkZ K cla fa) (lvl prg n)) :
    MB (cxOf (L2.CX P w) P w K mg base ["order", "found", "left", "form", "body", "argument"] "parted" (defScope s3) f cdv A0 outer s H E) (mkZ K cla fa) (lvl prg n) W (defBody s3) ir3 :=
  (mb_cons M (ms_ife M (mt_w M (mw_or M (mt_not M (mt_of M (me_isi M (me_var M 0)))) (mw_or M (mt_cmp M (me_var M 0) (me_tup M (ma_nil M))) (mw_or1 M (mt_not M (mt_of M (me_isi M (me_ix M (me_var M 0) (me_int M))))))))) (mb_cons M (ms_ret M (me_bl M))
  (mb_nil M)) (mb_nil M))
  (mb_cons M (ms_set M 3 (me_tup M (ma_cons M (me_ix M (me_var M 0) (me_int M)) (ma_cons M (me_bi M (ma_cons M (me_var M 0) (ma_nil M))) (ma_nil M)))))
  (mb_cons M (ms_ife M (mt_w M (mw_and M (mt_cmp M (me_var M 3) (me_tup M (ma_cons M (me_str M) (ma_cons M (me_int M) (ma_nil M))))) (mw_and1 M (mt_of M (me_call M (ma_cons M (me_ix M (me_var M 0) (me_int M)) (ma_cons M (me_int M) (ma_cons M (me_con M 1) (ma_nil M))))))))) (mb_cons M (ms_ex M (me_append M (me_var M 1) (me_tup M (ma_cons M (me_str M) (ma_cons M (me_ix M (me_var M 0) (me_int M)) (ma_nil M))))))
  (mb_cons M (ms_ret M (me_bl M))
  (mb_nil M))) (mb_nil M))
  (mb_cons M (ms_ife M (mt_w M (mw_and M (mt_cmp M (me_var M 3) (me_tup M (ma_cons M (me_str M) (ma_cons M (me_int M) (ma_nil M))))) (mw_and1 M (mt_of M (me_call M (ma_cons M (me_ix M (me_var M 0) (me_int M)) (ma_nil M))))))) (mb_cons M (ms_ex M (me_append M (me_var M 1) (me_var M 0)))
  (mb_cons M (ms_ret M (me_bl M))
  (mb_nil M))) (mb_nil M))
  (mb_cons M (ms_ife M (mt_cmp M (me_var M 3) (me_tup M (ma_cons M (me_str M) (ma_cons M (me_int M) (ma_nil M))))) (mb_cons M (ms_set M 4 (me_call M (ma_cons M (me_ix M (me_var M 0) (me_int M)) (ma_cons M (me_bin M (me_var M 2) (me_int M)) (ma_nil M)))))
  (mb_cons M (ms_ife M (mt_cmp M (me_var M 4) (me_non M)) (mb_cons M (ms_ex M (me_append M (me_var M 1) (me_tup M (ma_cons M (me_str M) (ma_cons M (me_var M 4) (ma_nil M))))))
  (mb_nil M)) (mb_nil M))
  (mb_cons M (ms_ret M (me_cmp M (me_var M 4) (me_non M)))
  (mb_nil M)))) (mb_nil M))
  (mb_cons M (ms_ife M (mt_w M (mw_and M (mt_cmp M (me_var M 3) (me_tup M (ma_cons M (me_str M) (ma_cons M (me_int M) (ma_nil M))))) (mw_and1 M (mt_cmp M (me_bi M (ma_cons M (me_var M 1) (ma_nil M))) (me_int M))))) (mb_cons M (ms_set M 5 (me_pop M (me_var M 1)))
  (mb_cons M (ms_ex M (me_append M (me_var M 1) (me_tup M (ma_cons M (me_str M) (ma_cons M (me_pop M (me_var M 1)) (ma_cons M (me_var M 5) (ma_nil M)))))))
  (mb_cons M (ms_ret M (me_bl M))
  (mb_nil M)))) (mb_nil M))
  (mb_cons M (ms_ret M (me_bl M))
  (mb_nil M))))))))
theorem d4 {P : Program} {w : World} {mg : Str → Option Value} {base : Heap} {f : Addr} {cdv : Value} {A0 : Around} {outer : List PySem.Env} {s : Shared} {H : Hp} {E : XK} (M : Mx (cxOf (L2.CX P w) P w K mg base ["code", "left", "found", "order"] "part_by" (defScope s4) f cdv A0 outer s H E) (mkZ K cla fa) (lvl prg n) (k + 2) W false) (A : XA (cxOf (L2.CX P w) P w K mg base ["code", "left", "found", "order"] "part_by" (defScope s4) f cdv A0 outer s H E) (mkZ K cla fa) (lvl prg n)) :
    MB (cxOf (L2.CX P w) P w K mg base ["code", "left", "found", "order"] "part_by" (defScope s4) f cdv A0 outer s H E) (mkZ K cla fa) (lvl prg n) W (defBody s4) ir4 :=
  (mb_cons M (ms_ife M (mt_w M (mw_or M (mt_cmp M (me_var M 1) (me_int M)) (mw_or M (mt_not M (mt_of M (me_isi M (me_var M 0)))) (mw_or1 M (mt_cmp M (me_bi M (ma_cons M (me_var M 0) (ma_nil M))) (me_con M 1)))))) (mb_cons M (ms_ret M (me_non M))
  (mb_nil M)) (mb_nil M))
  (mb_cons M (ms_set M 2 (me_lst M (ma_nil M)))
  (mb_cons M (ms_for M (mi_sq M (me_var M 0)) (mg_name M 3) (mb_cons M (ms_ife M (mt_not M (mt_of M (me_call M (ma_cons M (me_var M 3) (ma_cons M (me_var M 2) (ma_cons M (me_var M 1) (ma_nil M))))))) (mb_cons M (ms_ret M (me_non M))
  (mb_nil M)) (mb_nil M))
  (mb_nil M)))
  (mb_cons M (ms_ife M (mt_cmp M (me_bi M (ma_cons M (me_var M 2) (ma_nil M))) (me_int M)) (mb_cons M (ms_ret M (me_non M))
  (mb_nil M)) (mb_nil M))
  (mb_cons M (ms_ret M (me_ix M (me_var M 2) (me_int M)))
  (mb_nil M))))))
theorem d5 {P : Program} {w : World} {mg : Str → Option Value} {base : Heap} {f : Addr} {cdv : Value} {A0 : Around} {outer : List PySem.Env} {s : Shared} {H : Hp} {E : XK} (M : Mx (cxOf (L2.CX P w) P w K mg base ["code", "part", "size", "depth"] "part_of_code" (defScope s5) f cdv A0 outer s H E) (mkZ K cla fa) (lvl prg n) (k + 2) W false) (A : XA (cxOf (L2.CX P w) P w K mg base ["code", "part", "size", "depth"] "part_of_code" (defScope s5) f cdv A0 outer s H E) (mkZ K cla fa) (lvl prg n)) :
    MB (cxOf (L2.CX P w) P w K mg base ["code", "part", "size", "depth"] "part_of_code" (defScope s5) f cdv A0 outer s H E) (mkZ K cla fa) (lvl prg n) W (defBody s5) ir5 :=
  (mb_cons M (ms_set M 1 (me_call M (ma_cons M (me_var M 0) (ma_cons M (me_con M 2) (ma_nil M)))))
  (mb_cons M (ms_ife M (mt_cmp M (me_var M 1) (me_non M)) (mb_cons M (ms_r1 M A (ma_cons M (me_str M) (ma_cons M (me_str M) (ma_nil M))))
  (mb_nil M)) (mb_nil M))
  (mb_cons M (ms_unp M (mg_tup M (mg_cons M (mg_cons M (mg_nil M)))) (me_call M (ma_cons M (me_var M 1) (ma_nil M))))
  (mb_cons M (ms_ife M (mt_w M (mw_or M (mt_cmp M (me_var M 2) (me_con M 1)) (mw_or1 M (mt_cmp M (me_var M 3) (me_con M 2))))) (mb_cons M (ms_r1 M A (ma_cons M (me_str M) (ma_cons M (me_str M) (ma_nil M))))
  (mb_nil M)) (mb_nil M))
  (mb_cons M (ms_ret M (me_var M 1))
  (mb_nil M))))))
theorem d6 {P : Program} {w : World} {mg : Str → Option Value} {base : Heap} {f : Addr} {cdv : Value} {A0 : Around} {outer : List PySem.Env} {s : Shared} {H : Hp} {E : XK} (M : Mx (cxOf (L2.CX P w) P w K mg base ["code", "found", "order"] "lines_of" (defScope s6) f cdv A0 outer s H E) (mkZ K cla fa) (lvl prg n) (k + 2) W false) (A : XA (cxOf (L2.CX P w) P w K mg base ["code", "found", "order"] "lines_of" (defScope s6) f cdv A0 outer s H E) (mkZ K cla fa) (lvl prg n)) :
    MB (cxOf (L2.CX P w) P w K mg base ["code", "found", "order"] "lines_of" (defScope s6) f cdv A0 outer s H E) (mkZ K cla fa) (lvl prg n) W (defBody s6) ir6 :=
  (mb_cons M (ms_set M 1 (me_lst M (ma_nil M)))
  (mb_cons M (ms_for M (mi_sq M (me_var M 0)) (mg_name M 2) (mb_cons M (ms_ife M (mt_cmp M (me_ix M (me_var M 2) (me_int M)) (me_str M)) (mb_cons M (ms_ex M (me_append M (me_var M 1) (me_bin M (me_str M) (me_bi M (ma_cons M (me_ix M (me_var M 2) (me_int M)) (ma_nil M))))))
  (mb_nil M)) (mb_cons M (ms_ife M (mt_cmp M (me_ix M (me_var M 2) (me_int M)) (me_str M)) (mb_cons M (ms_ex M (me_append M (me_var M 1) (me_bin M (me_str M) (me_ix M (me_var M 2) (me_int M)))))
  (mb_nil M)) (mb_cons M (ms_ife M (mt_cmp M (me_ix M (me_var M 2) (me_int M)) (me_str M)) (mb_cons M (ms_ex M (me_append M (me_var M 1) (me_str M)))
  (mb_nil M)) (mb_cons M (ms_ex M (me_append M (me_var M 1) (me_str M)))
  (mb_cons M (ms_ex M (me_extend M (me_var M 1) (me_call M (ma_cons M (me_ix M (me_var M 2) (me_int M)) (ma_nil M)))))
  (mb_cons M (ms_ex M (me_append M (me_var M 1) (me_str M)))
  (mb_nil M)))))
  (mb_nil M)))
  (mb_nil M)))
  (mb_nil M)))
  (mb_cons M (ms_ret M (me_var M 1))
  (mb_nil M))))
theorem d7 {P : Program} {w : World} {mg : Str → Option Value} {base : Heap} {f : Addr} {cdv : Value} {A0 : Around} {outer : List PySem.Env} {s : Shared} {H : Hp} {E : XK} (M : Mx (cxOf (L2.CX P w) P w K mg base ["code"] "write_code" (defScope s7) f cdv A0 outer s H E) (mkZ K cla fa) (lvl prg n) (k + 2) W false) (A : XA (cxOf (L2.CX P w) P w K mg base ["code"] "write_code" (defScope s7) f cdv A0 outer s H E) (mkZ K cla fa) (lvl prg n)) :
    MB (cxOf (L2.CX P w) P w K mg base ["code"] "write_code" (defScope s7) f cdv A0 outer s H E) (mkZ K cla fa) (lvl prg n) W (defBody s7) ir7 :=
  (mb_cons M (ms_ex M (me_call M (ma_cons M (me_var M 0) (ma_nil M))))
  (mb_cons M (ms_ret M (me_join M (me_str M) (me_call M (ma_cons M (me_var M 0) (ma_nil M)))))
  (mb_nil M)))
theorem d8 {P : Program} {w : World} {mg : Str → Option Value} {base : Heap} {f : Addr} {cdv : Value} {A0 : Around} {outer : List PySem.Env} {s : Shared} {H : Hp} {E : XK} (M : Mx (cxOf (L2.CX P w) P w K mg base ["word", "sign"] "number_in" (defScope s8) f cdv A0 outer s H E) (mkZ K cla fa) (lvl prg n) (k + 2) W false) (A : XA (cxOf (L2.CX P w) P w K mg base ["word", "sign"] "number_in" (defScope s8) f cdv A0 outer s H E) (mkZ K cla fa) (lvl prg n)) :
    MB (cxOf (L2.CX P w) P w K mg base ["word", "sign"] "number_in" (defScope s8) f cdv A0 outer s H E) (mkZ K cla fa) (lvl prg n) W (defBody s8) ir8 :=
  (mb_cons M (ms_ife M (mt_w M (mw_or M (mt_cmp M (me_var M 0) (me_str M)) (mw_or M (mt_cmp M (me_bi M (ma_cons M (me_var M 0) (ma_nil M))) (me_int M)) (mw_or1 M (mt_not M (mt_of M (me_bi M (ma_cons M (me_lc M [("sign", 1)] (mi_sq M (me_var M 0)) (fun _ _ _ _ _ M => (mg_name M 1)) (fun _ _ _ _ _ M => mc_none) (fun _ _ _ _ _ M => (me_cmp M (me_var M 1) (me_con M 7)))) (ma_nil M))))))))) (mb_cons M (ms_ret M (me_non M))
  (mb_nil M)) (mb_nil M))
  (mb_cons M (ms_ife M (mt_w M (mw_and M (mt_cmp M (me_bi M (ma_cons M (me_var M 0) (ma_nil M))) (me_int M)) (mw_and1 M (mt_cmp M (me_ix M (me_var M 0) (me_int M)) (me_str M))))) (mb_cons M (ms_ret M (me_non M))
  (mb_nil M)) (mb_nil M))
  (mb_cons M (ms_ife M (mt_cmp M (me_bi M (ma_cons M (me_var M 0) (ma_nil M))) (me_con M 1)) (mb_cons M (ms_ret M (me_non M))
  (mb_nil M)) (mb_nil M))
  (mb_cons M (ms_ret M (me_bi M (ma_cons M (me_var M 0) (ma_nil M))))
  (mb_nil M)))))
theorem d9 {P : Program} {w : World} {mg : Str → Option Value} {base : Heap} {f : Addr} {cdv : Value} {A0 : Around} {outer : List PySem.Env} {s : Shared} {H : Hp} {E : XK} (M : Mx (cxOf (L2.CX P w) P w K mg base ["code", "part", "size", "depth"] "is_code" (defScope s9) f cdv A0 outer s H E) (mkZ K cla fa) (lvl prg n) (k + 2) W false) (A : XA (cxOf (L2.CX P w) P w K mg base ["code", "part", "size", "depth"] "is_code" (defScope s9) f cdv A0 outer s H E) (mkZ K cla fa) (lvl prg n)) :
    MB (cxOf (L2.CX P w) P w K mg base ["code", "part", "size", "depth"] "is_code" (defScope s9) f cdv A0 outer s H E) (mkZ K cla fa) (lvl prg n) W (defBody s9) ir9 :=
  (mb_cons M (ms_set M 1 (me_call M (ma_cons M (me_var M 0) (ma_cons M (me_con M 2) (ma_nil M)))))
  (mb_cons M (ms_ife M (mt_cmp M (me_var M 1) (me_non M)) (mb_cons M (ms_ret M (me_bl M))
  (mb_nil M)) (mb_nil M))
  (mb_cons M (ms_unp M (mg_tup M (mg_cons M (mg_cons M (mg_nil M)))) (me_call M (ma_cons M (me_var M 1) (ma_nil M))))
  (mb_cons M (ms_ret M (me_and M (me_cmp M (me_var M 2) (me_con M 1)) (me_one M (me_cmp M (me_var M 3) (me_con M 2)))))
  (mb_nil M)))))
theorem d10 {P : Program} {w : World} {mg : Str → Option Value} {base : Heap} {f : Addr} {cdv : Value} {A0 : Around} {outer : List PySem.Env} {s : Shared} {H : Hp} {E : XK} (M : Mx (cxOf (L2.CX P w) P w K mg base ["text", "reading", "lines", "code", "number", "line"] "read_code" (defScope s10) f cdv A0 outer s H E) (mkZ K cla fa) (lvl prg n) (k + 2) W false) (A : XA (cxOf (L2.CX P w) P w K mg base ["text", "reading", "lines", "code", "number", "line"] "read_code" (defScope s10) f cdv A0 outer s H E) (mkZ K cla fa) (lvl prg n)) :
    MB (cxOf (L2.CX P w) P w K mg base ["text", "reading", "lines", "code", "number", "line"] "read_code" (defScope s10) f cdv A0 outer s H E) (mkZ K cla fa) (lvl prg n) W (defBody s10) ir10 :=
  (mb_cons M (ms_ife M (mt_w M (mw_or M (mt_not M (mt_of M (me_isi M (me_var M 0)))) (mw_or1 M (mt_cmp M (me_bi M (ma_cons M (me_var M 0) (ma_nil M))) (me_con M 0))))) (mb_cons M (ms_r1 M A (ma_cons M (me_int M) (ma_nil M)))
  (mb_nil M)) (mb_nil M))
  (mb_cons M (ms_set M 1 (me_new0 M))
  (mb_cons M (ms_set M 2 (me_split M (me_var M 0) (me_str M)))
  (mb_cons M (ms_for M (mi_enum M (me_var M 2)) (mg_tup M (mg_cons M (mg_cons M (mg_nil M)))) (mb_cons M (ms_ife M (mt_not M (mt_of M (me_mth M (me_var M 1) (ma_cons M (me_var M 5) (ma_nil M))))) (mb_cons M (ms_r1 M A (ma_cons M (me_bin M (me_var M 4) (me_int M)) (ma_nil M)))
  (mb_nil M)) (mb_nil M))
  (mb_nil M)))
  (mb_cons M (ms_set M 3 (me_bi M (ma_cons M (me_att M (me_ix M (me_att M (me_var M 1)) (me_int M))) (ma_nil M))))
  (mb_cons M (ms_ife M (mt_w M (mw_or M (mt_cmp M (me_bi M (ma_cons M (me_att M (me_var M 1)) (ma_nil M))) (me_int M)) (mw_or1 M (mt_not M (mt_of M (me_call M (ma_cons M (me_var M 3) (ma_nil M)))))))) (mb_cons M (ms_r1 M A (ma_cons M (me_bi M (ma_cons M (me_var M 2) (ma_nil M))) (ma_nil M)))
  (mb_nil M)) (mb_nil M))
  (mb_cons M (ms_ret M (me_var M 3))
  (mb_nil M))))))))
theorem d11 {P : Program} {w : World} {mg : Str → Option Value} {base : Heap} {f : Addr} {cdv : Value} {A0 : Around} {outer : List PySem.Env} {s : Shared} {H : Hp} {E : XK} (M : Mx (cxOf (L2.CX P w) P w K mg base ["script", "seed", "cell"] "_law_tape" (defScope s11) f cdv A0 outer s H E) (mkZ K cla fa) (lvl prg n) (k + 2) W false) (A : XA (cxOf (L2.CX P w) P w K mg base ["script", "seed", "cell"] "_law_tape" (defScope s11) f cdv A0 outer s H E) (mkZ K cla fa) (lvl prg n)) :
    MB (cxOf (L2.CX P w) P w K mg base ["script", "seed", "cell"] "_law_tape" (defScope s11) f cdv A0 outer s H E) (mkZ K cla fa) (lvl prg n) W (defBody s11) ir11 :=
  (mb_cons M (ms_set M 1 (me_int M))
  (mb_cons M (ms_for M (mi_sq M (me_var M 0)) (mg_name M 2) (mb_cons M (ms_set M 1 (me_bin M (me_bi M (ma_cons M (me_bin M (me_bin M (me_var M 1) (me_int M)) (me_var M 2)) (ma_nil M))) (me_int M)))
  (mb_nil M)))
  (mb_cons M (ms_ret M (me_lst M (ma_cons M (me_lc M [("cell", 2)] (mi_sq M (me_var M 0)) (fun _ _ _ _ _ M => (mg_name M 2)) (fun _ _ _ _ _ M => mc_none) (fun _ _ _ _ _ M => (me_bi M (ma_cons M (me_bi M (ma_cons M (me_var M 2) (ma_nil M))) (ma_nil M))))) (ma_cons M (me_bin M (me_var M 1) (me_int M)) (ma_nil M)))))
  (mb_nil M))))
theorem d12 {P : Program} {w : World} {mg : Str → Option Value} {base : Heap} {f : Addr} {cdv : Value} {A0 : Around} {outer : List PySem.Env} {s : Shared} {H : Hp} {E : XK} (M : Mx (cxOf (L2.CX P w) P w K mg base ["tape", "many", "cells", "number"] "_law_draw" (defScope s12) f cdv A0 outer s H E) (mkZ K cla fa) (lvl prg n) (k + 2) W false) (A : XA (cxOf (L2.CX P w) P w K mg base ["tape", "many", "cells", "number"] "_law_draw" (defScope s12) f cdv A0 outer s H E) (mkZ K cla fa) (lvl prg n)) :
    MB (cxOf (L2.CX P w) P w K mg base ["tape", "many", "cells", "number"] "_law_draw" (defScope s12) f cdv A0 outer s H E) (mkZ K cla fa) (lvl prg n) W (defBody s12) ir12 :=
  (mb_cons M (ms_set M 2 (me_ix M (me_var M 0) (me_int M)))
  (mb_cons M (ms_whl M (mt_w M (mw_and M (mt_cmp M (me_bi M (ma_cons M (me_var M 2) (ma_nil M))) (me_int M)) (mw_and1 M (mt_cmp M (me_ix M (me_var M 2) (me_int M)) (me_int M))))) (mb_cons M (ms_ex M (me_pop1 M (me_var M 2) (me_int M)))
  (mb_nil M)))
  (mb_cons M (ms_ife M (mt_cmp M (me_bi M (ma_cons M (me_var M 2) (ma_nil M))) (me_int M)) (mb_cons M (ms_set M 3 (me_ix M (me_var M 2) (me_int M)))
  (mb_cons M (ms_setix M (me_bin M (me_var M 3) (me_var M 1)) (me_var M 2) (me_int M))
  (mb_cons M (ms_ret M (me_bin M (me_bi M (ma_cons M (me_var M 3) (ma_nil M))) (me_var M 1)))
  (mb_nil M)))) (mb_nil M))
  (mb_cons M (ms_setix M (me_bin M (me_bi M (ma_cons M (me_bin M (me_bin M (me_ix M (me_var M 0) (me_int M)) (me_int M)) (me_int M)) (ma_nil M))) (me_int M)) (me_var M 0) (me_int M))
  (mb_cons M (ms_ret M (me_bin M (me_bi M (ma_cons M (me_bin M (me_ix M (me_var M 0) (me_int M)) (me_int M)) (ma_nil M))) (me_var M 1)))
  (mb_nil M))))))
theorem d13 {P : Program} {w : World} {mg : Str → Option Value} {base : Heap} {f : Addr} {cdv : Value} {A0 : Around} {outer : List PySem.Env} {s : Shared} {H : Hp} {E : XK} (M : Mx (cxOf (L2.CX P w) P w K mg base ["tape", "row"] "_law_pick" (defScope s13) f cdv A0 outer s H E) (mkZ K cla fa) (lvl prg n) (k + 2) W false) (A : XA (cxOf (L2.CX P w) P w K mg base ["tape", "row"] "_law_pick" (defScope s13) f cdv A0 outer s H E) (mkZ K cla fa) (lvl prg n)) :
    MB (cxOf (L2.CX P w) P w K mg base ["tape", "row"] "_law_pick" (defScope s13) f cdv A0 outer s H E) (mkZ K cla fa) (lvl prg n) W (defBody s13) ir13 :=
  (mb_cons M (ms_ret M (me_ix M (me_var M 1) (me_call M (ma_cons M (me_var M 0) (ma_cons M (me_bi M (ma_cons M (me_var M 1) (ma_nil M))) (ma_nil M))))))
  (mb_nil M))
theorem d14 {P : Program} {w : World} {mg : Str → Option Value} {base : Heap} {f : Addr} {cdv : Value} {A0 : Around} {outer : List PySem.Env} {s : Shared} {H : Hp} {E : XK} (M : Mx (cxOf (L2.CX P w) P w K mg base ["told", "due", "k"] "_law_same" (defScope s14) f cdv A0 outer s H E) (mkZ K cla fa) (lvl prg n) (k + 2) W false) (A : XA (cxOf (L2.CX P w) P w K mg base ["told", "due", "k"] "_law_same" (defScope s14) f cdv A0 outer s H E) (mkZ K cla fa) (lvl prg n)) :
    MB (cxOf (L2.CX P w) P w K mg base ["told", "due", "k"] "_law_same" (defScope s14) f cdv A0 outer s H E) (mkZ K cla fa) (lvl prg n) W (defBody s14) ir14 :=
  (mb_cons M (ms_ife M (mt_cmp M (me_var M 1) (me_non M)) (mb_cons M (ms_ret M (me_cmp M (me_var M 0) (me_non M)))
  (mb_nil M)) (mb_nil M))
  (mb_cons M (ms_ife M (mt_of M (me_isi M (me_var M 1))) (mb_cons M (ms_ret M (me_and M (me_isi M (me_var M 0)) (me_one M (me_cmp M (me_var M 0) (me_var M 1)))))
  (mb_nil M)) (mb_nil M))
  (mb_cons M (ms_ife M (mt_of M (me_isi M (me_var M 1))) (mb_cons M (ms_ret M (me_and M (me_isi M (me_var M 0)) (me_and M (me_not M (me_isi M (me_var M 0))) (me_one M (me_cmp M (me_var M 0) (me_var M 1))))))
  (mb_nil M)) (mb_nil M))
  (mb_cons M (ms_ife M (mt_of M (me_isi M (me_var M 1))) (mb_cons M (ms_ret M (me_and M (me_isi M (me_var M 0)) (me_one M (me_cmp M (me_var M 0) (me_var M 1)))))
  (mb_nil M)) (mb_nil M))
  (mb_cons M (ms_ife M (mt_w M (mw_or M (mt_cmp M (me_isi M (me_var M 1)) (me_isi M (me_var M 0))) (mw_or1 M (mt_cmp M (me_isi M (me_var M 1)) (me_isi M (me_var M 0)))))) (mb_cons M (ms_ret M (me_bl M))
  (mb_nil M)) (mb_nil M))
  (mb_cons M (ms_ife M (mt_w M (mw_or M (mt_not M (mt_of M (me_isi2 M (me_var M 0)))) (mw_or1 M (mt_cmp M (me_bi M (ma_cons M (me_var M 0) (ma_nil M))) (me_bi M (ma_cons M (me_var M 1) (ma_nil M))))))) (mb_cons M (ms_ret M (me_bl M))
  (mb_nil M)) (mb_nil M))
  (mb_cons M (ms_ret M (me_cmp M (me_bl M) (me_lc M [("k", 2)] (mi_rng M (me_bi M (ma_cons M (me_var M 1) (ma_nil M)))) (fun _ _ _ _ _ M => (mg_name M 2)) (fun _ _ _ _ _ M => mc_none) (fun _ _ _ _ _ M => (me_call M (ma_cons M (me_ix M (me_var M 0) (me_var M 2)) (ma_cons M (me_ix M (me_var M 1) (me_var M 2)) (ma_nil M))))))))
  (mb_nil M))))))))
theorem d15 {P : Program} {w : World} {mg : Str → Option Value} {base : Heap} {f : Addr} {cdv : Value} {A0 : Around} {outer : List PySem.Env} {s : Shared} {H : Hp} {E : XK} (M : Mx (cxOf (L2.CX P w) P w K mg base ["tape", "around", "size", "pick", "left"] "_law_part" (defScope s15) f cdv A0 outer s H E) (mkZ K cla fa) (lvl prg n) (k + 2) W false) (A : XA (cxOf (L2.CX P w) P w K mg base ["tape", "around", "size", "pick", "left"] "_law_part" (defScope s15) f cdv A0 outer s H E) (mkZ K cla fa) (lvl prg n)) :
    MB (cxOf (L2.CX P w) P w K mg base ["tape", "around", "size", "pick", "left"] "_law_part" (defScope s15) f cdv A0 outer s H E) (mkZ K cla fa) (lvl prg n) W (defBody s15) ir15 :=
  (mb_cons M (ms_set M 3 (me_call M (ma_cons M (me_var M 0) (ma_cons M (me_int M) (ma_nil M)))))
  (mb_cons M (ms_ife M (mt_w M (mw_or M (mt_cmp M (me_var M 2) (me_int M)) (mw_or1 M (mt_cmp M (me_var M 3) (me_int M))))) (mb_cons M (ms_ife M (mt_w M (mw_and M (mt_cmp M (me_var M 1) (me_int M)) (mw_and1 M (mt_cmp M (me_call M (ma_cons M (me_var M 0) (ma_cons M (me_int M) (ma_nil M)))) (me_int M))))) (mb_cons M (ms_ret M (me_tup M (ma_cons M (me_str M) (ma_cons M (me_call M (ma_cons M (me_var M 0) (ma_cons M (me_var M 1) (ma_nil M)))) (ma_nil M)))))
  (mb_nil M)) (mb_nil M))
  (mb_cons M (ms_ret M (me_tup M (ma_cons M (me_str M) (ma_cons M (me_call M (ma_cons M (me_var M 0) (ma_cons M (me_lst M (ma_cons M (me_str M) (ma_cons M (me_str M) (ma_cons M (me_str M) (ma_nil M))))) (ma_nil M)))) (ma_nil M)))))
  (mb_nil M))) (mb_nil M))
  (mb_cons M (ms_ife M (mt_cmp M (me_var M 3) (me_int M)) (mb_cons M (ms_ret M (me_tup M (ma_cons M (me_str M) (ma_cons M (me_call M (ma_cons M (me_var M 0) (ma_cons M (me_bin M (me_var M 1) (me_int M)) (ma_cons M (me_bin M (me_var M 2) (me_int M)) (ma_nil M))))) (ma_nil M)))))
  (mb_nil M)) (mb_nil M))
  (mb_cons M (ms_set M 4 (me_bin M (me_int M) (me_call M (ma_cons M (me_var M 0) (ma_cons M (me_bin M (me_var M 2) (me_int M)) (ma_nil M))))))
  (mb_cons M (ms_ret M (me_tup M (ma_cons M (me_str M) (ma_cons M (me_call M (ma_cons M (me_var M 0) (ma_cons M (me_var M 1) (ma_cons M (me_var M 4) (ma_nil M))))) (ma_cons M (me_call M (ma_cons M (me_var M 0) (ma_cons M (me_var M 1) (ma_cons M (me_bin M (me_var M 2) (me_var M 4)) (ma_nil M))))) (ma_nil M))))))
  (mb_nil M))))))
theorem d16 {P : Program} {w : World} {mg : Str → Option Value} {base : Heap} {f : Addr} {cdv : Value} {A0 : Around} {outer : List PySem.Env} {s : Shared} {H : Hp} {E : XK} (M : Mx (cxOf (L2.CX P w) P w K mg base ["part"] "_law_code" (defScope s16) f cdv A0 outer s H E) (mkZ K cla fa) (lvl prg n) (k + 2) W false) (A : XA (cxOf (L2.CX P w) P w K mg base ["part"] "_law_code" (defScope s16) f cdv A0 outer s H E) (mkZ K cla fa) (lvl prg n)) :
    MB (cxOf (L2.CX P w) P w K mg base ["part"] "_law_code" (defScope s16) f cdv A0 outer s H E) (mkZ K cla fa) (lvl prg n) W (defBody s16) ir16 :=
  (mb_cons M (ms_ife M (mt_cmp M (me_ix M (me_var M 0) (me_int M)) (me_str M)) (mb_cons M (ms_ret M (me_tup M (ma_cons M (me_tup M (ma_cons M (me_str M) (ma_cons M (me_ix M (me_var M 0) (me_int M)) (ma_nil M)))) (ma_nil M))))
  (mb_nil M)) (mb_nil M))
  (mb_cons M (ms_ife M (mt_cmp M (me_ix M (me_var M 0) (me_int M)) (me_str M)) (mb_cons M (ms_ret M (me_tup M (ma_cons M (me_tup M (ma_cons M (me_str M) (ma_cons M (me_ix M (me_var M 0) (me_int M)) (ma_nil M)))) (ma_nil M))))
  (mb_nil M)) (mb_nil M))
  (mb_cons M (ms_ife M (mt_cmp M (me_ix M (me_var M 0) (me_int M)) (me_str M)) (mb_cons M (ms_ret M (me_tup M (ma_cons M (me_tup M (ma_cons M (me_str M) (ma_cons M (me_call M (ma_cons M (me_ix M (me_var M 0) (me_int M)) (ma_nil M))) (ma_nil M)))) (ma_nil M))))
  (mb_nil M)) (mb_nil M))
  (mb_cons M (ms_ret M (me_bin M (me_bin M (me_call M (ma_cons M (me_ix M (me_var M 0) (me_int M)) (ma_nil M))) (me_call M (ma_cons M (me_ix M (me_var M 0) (me_int M)) (ma_nil M)))) (me_tup M (ma_cons M (me_tup M (ma_cons M (me_str M) (ma_nil M))) (ma_nil M)))))
  (mb_nil M)))))
theorem d17 {P : Program} {w : World} {mg : Str → Option Value} {base : Heap} {f : Addr} {cdv : Value} {A0 : Around} {outer : List PySem.Env} {s : Shared} {H : Hp} {E : XK} (M : Mx (cxOf (L2.CX P w) P w K mg base ["call", "value", "error", "told"] "_law_call" (defScope s17) f cdv A0 outer s H E) (mkZ K cla fa) (lvl prg n) (k + 2) W false) (A : XA (cxOf (L2.CX P w) P w K mg base ["call", "value", "error", "told"] "_law_call" (defScope s17) f cdv A0 outer s H E) (mkZ K cla fa) (lvl prg n)) :
    MB (cxOf (L2.CX P w) P w K mg base ["call", "value", "error", "told"] "_law_call" (defScope s17) f cdv A0 outer s H E) (mkZ K cla fa) (lvl prg n) W (defBody s17) ir17 :=
  (mb_cons M (ms_try M (fun _ _ _ M => (mb_cons M (ms_set M 3 (me_callv M 0 (ma_cons M (me_var M 1) (ma_nil M))))
  (mb_nil M))) (mh_exf M A 2 (mh_exf2 M A 2 (mh_nil M))))
  (mb_cons M (ms_ret M (me_var M 3))
  (mb_nil M)))
theorem d18 {P : Program} {w : World} {mg : Str → Option Value} {base : Heap} {f : Addr} {cdv : Value} {A0 : Around} {outer : List PySem.Env} {s : Shared} {H : Hp} {E : XK} (M : Mx (cxOf (L2.CX P w) P w K mg base ["code", "found", "order", "one"] "_law_lines" (defScope s18) f cdv A0 outer s H E) (mkZ K cla fa) (lvl prg n) (k + 2) W false) (A : XA (cxOf (L2.CX P w) P w K mg base ["code", "found", "order", "one"] "_law_lines" (defScope s18) f cdv A0 outer s H E) (mkZ K cla fa) (lvl prg n)) :
    MB (cxOf (L2.CX P w) P w K mg base ["code", "found", "order", "one"] "_law_lines" (defScope s18) f cdv A0 outer s H E) (mkZ K cla fa) (lvl prg n) W (defBody s18) ir18 :=
  (mb_cons M (ms_set M 1 (me_lst M (ma_nil M)))
  (mb_cons M (ms_for M (mi_sq M (me_var M 0)) (mg_name M 2) (mb_cons M (ms_ife M (mt_cmp M (me_ix M (me_var M 2) (me_int M)) (me_str M)) (mb_cons M (ms_set M 1 (me_bin M (me_bin M (me_bin M (me_var M 1) (me_lst M (ma_cons M (me_str M) (ma_nil M)))) (me_call M (ma_cons M (me_ix M (me_var M 2) (me_int M)) (ma_nil M)))) (me_lst M (ma_cons M (me_str M) (ma_nil M)))))
  (mb_nil M)) (mb_cons M (ms_set M 1 (me_bin M (me_var M 1) (me_lst M (ma_cons M (me_join M (me_str M) (me_lc M [("one", 3)] (mi_sq M (me_var M 2)) (fun _ _ _ _ _ M => (mg_name M 3)) (fun _ _ _ _ _ M => mc_none) (fun _ _ _ _ _ M => (me_bi M (ma_cons M (me_var M 3) (ma_nil M)))))) (ma_nil M)))))
  (mb_nil M)))
  (mb_nil M)))
  (mb_cons M (ms_ret M (me_var M 1))
  (mb_nil M))))
theorem d19 {P : Program} {w : World} {mg : Str → Option Value} {base : Heap} {f : Addr} {cdv : Value} {A0 : Around} {outer : List PySem.Env} {s : Shared} {H : Hp} {E : XK} (M : Mx (cxOf (L2.CX P w) P w K mg base ["line", "parts", "letters", "sign"] "_law_order" (defScope s19) f cdv A0 outer s H E) (mkZ K cla fa) (lvl prg n) (k + 2) W false) (A : XA (cxOf (L2.CX P w) P w K mg base ["line", "parts", "letters", "sign"] "_law_order" (defScope s19) f cdv A0 outer s H E) (mkZ K cla fa) (lvl prg n)) :
    MB (cxOf (L2.CX P w) P w K mg base ["line", "parts", "letters", "sign"] "_law_order" (defScope s19) f cdv A0 outer s H E) (mkZ K cla fa) (lvl prg n) W (defBody s19) ir19 :=
  (mb_cons M (ms_set M 1 (me_split M (me_var M 0) (me_str M)))
  (mb_cons M (ms_ife M (mt_w M (mw_or M (mt_cmp M (me_bi M (ma_cons M (me_var M 1) (ma_nil M))) (me_int M)) (mw_or1 M (mt_cmp M (me_ix M (me_var M 1) (me_int M)) (me_str M))))) (mb_cons M (ms_ret M (me_non M))
  (mb_nil M)) (mb_nil M))
  (mb_cons M (ms_set M 2 (me_str M))
  (mb_cons M (ms_ife M (mt_cmp M (me_ix M (me_var M 1) (me_int M)) (me_str M)) (mb_cons M (ms_ife M (mt_w M (mw_or M (mt_cmp M (me_bi M (ma_cons M (me_lc M [("sign", 3)] (mi_sq M (me_ix M (me_var M 1) (me_int M))) (fun _ _ _ _ _ M => (mg_name M 3)) (fun _ _ _ _ _ M => (mc_some (mt_cmp M (me_var M 3) (me_str M)))) (fun _ _ _ _ _ M => (me_var M 3))) (ma_nil M))) (me_int M)) (mw_or M (mt_cmp M (me_bi M (ma_cons M (me_ix M (me_var M 1) (me_int M)) (ma_nil M))) (me_int M)) (mw_or1 M (mt_w M (mw_and M (mt_cmp M (me_bi M (ma_cons M (me_ix M (me_var M 1) (me_int M)) (ma_nil M))) (me_int M)) (mw_and1 M (mt_cmp M (me_ix M (me_ix M (me_var M 1) (me_int M)) (me_int M)) (me_str M))))))))) (mb_cons M (ms_ret M (me_non M))
  (mb_nil M)) (mb_nil M))
  (mb_cons M (ms_ret M (me_ite M (mt_cmp M (me_bi M (ma_cons M (me_ix M (me_var M 1) (me_int M)) (ma_nil M))) (me_int M)) (me_tup M (ma_cons M (me_str M) (ma_cons M (me_bi M (ma_cons M (me_ix M (me_var M 1) (me_int M)) (ma_nil M))) (ma_nil M)))) (me_non M)))
  (mb_nil M))) (mb_nil M))
  (mb_cons M (ms_ife M (mt_w M (mw_or M (mt_cmp M (me_ix M (me_var M 1) (me_int M)) (me_str M)) (mw_or M (mt_cmp M (me_ix M (me_ix M (me_var M 1) (me_int M)) (me_int M)) (me_var M 2)) (mw_or M (mt_cmp M (me_bi M (ma_cons M (me_ix M (me_var M 1) (me_int M)) (ma_nil M))) (me_int M)) (mw_or1 M (mt_cmp M (me_ix M (me_var M 1) (me_int M)) (me_tup M (ma_cons M (me_str M) (ma_cons M (me_str M) (ma_nil M)))))))))) (mb_cons M (ms_ret M (me_non M))
  (mb_nil M)) (mb_nil M))
  (mb_cons M (ms_ret M (me_ite M (mt_cmp M (me_bi M (ma_cons M (me_lc M [("sign", 3)] (mi_sq M (me_ix M (me_var M 1) (me_int M))) (fun _ _ _ _ _ M => (mg_name M 3)) (fun _ _ _ _ _ M => (mc_some (mt_cmp M (me_var M 3) (me_bin M (me_var M 2) (me_str M))))) (fun _ _ _ _ _ M => (me_var M 3))) (ma_nil M))) (me_int M)) (me_tup M (ma_cons M (me_str M) (ma_cons M (me_ix M (me_var M 1) (me_int M)) (ma_nil M)))) (me_non M)))
  (mb_nil M)))))))
theorem d20 {P : Program} {w : World} {mg : Str → Option Value} {base : Heap} {f : Addr} {cdv : Value} {A0 : Around} {outer : List PySem.Env} {s : Shared} {H : Hp} {E : XK} (M : Mx (cxOf (L2.CX P w) P w K mg base ["lines", "rows", "many", "k", "code", "order"] "_law_read" (defScope s20) f cdv A0 outer s H E) (mkZ K cla fa) (lvl prg n) (k + 2) W false) (A : XA (cxOf (L2.CX P w) P w K mg base ["lines", "rows", "many", "k", "code", "order"] "_law_read" (defScope s20) f cdv A0 outer s H E) (mkZ K cla fa) (lvl prg n)) :
    MB (cxOf (L2.CX P w) P w K mg base ["lines", "rows", "many", "k", "code", "order"] "_law_read" (defScope s20) f cdv A0 outer s H E) (mkZ K cla fa) (lvl prg n) W (defBody s20) ir20 :=
  (mb_cons M (ms_set M 1 (me_lst M (ma_cons M (me_lst M (ma_nil M)) (ma_nil M))))
  (mb_cons M (ms_set M 2 (me_lst M (ma_cons M (me_int M) (ma_nil M))))
  (mb_cons M (ms_for M (mi_rng M (me_bi M (ma_cons M (me_var M 0) (ma_nil M)))) (mg_name M 3) (mb_cons M (ms_ife M (mt_cmp M (me_ix M (me_var M 0) (me_var M 3)) (me_str M)) (mb_cons M (ms_ife M (mt_cmp M (me_ix M (me_var M 2) (me_neg M (me_int M))) (me_int M)) (mb_cons M (ms_ret M (me_bin M (me_var M 3) (me_int M)))
  (mb_nil M)) (mb_nil M))
  (mb_cons M (ms_ex M (me_append M (me_ix M (me_var M 1) (me_neg M (me_int M))) (me_tup M (ma_cons M (me_str M) (ma_nil M)))))
  (mb_cons M (ms_setix M (me_bin M (me_ix M (me_var M 2) (me_neg M (me_int M))) (me_int M)) (me_var M 2) (me_neg M (me_int M)))
  (mb_nil M)))) (mb_cons M (ms_ife M (mt_cmp M (me_ix M (me_var M 0) (me_var M 3)) (me_str M)) (mb_cons M (ms_ex M (me_append M (me_var M 1) (me_lst M (ma_nil M))))
  (mb_cons M (ms_ex M (me_append M (me_var M 2) (me_int M)))
  (mb_nil M))) (mb_cons M (ms_ife M (mt_cmp M (me_ix M (me_var M 0) (me_var M 3)) (me_str M)) (mb_cons M (ms_ife M (mt_w M (mw_or M (mt_cmp M (me_bi M (ma_cons M (me_var M 1) (ma_nil M))) (me_int M)) (mw_or1 M (mt_cmp M (me_ix M (me_var M 2) (me_neg M (me_int M))) (me_int M))))) (mb_cons M (ms_ret M (me_bin M (me_var M 3) (me_int M)))
  (mb_nil M)) (mb_nil M))
  (mb_cons M (ms_set M 4 (me_bi M (ma_cons M (me_pop M (me_var M 1)) (ma_nil M))))
  (mb_cons M (ms_ex M (me_pop M (me_var M 2)))
  (mb_cons M (ms_ex M (me_append M (me_ix M (me_var M 1) (me_neg M (me_int M))) (me_tup M (ma_cons M (me_str M) (ma_cons M (me_var M 4) (ma_nil M))))))
  (mb_cons M (ms_setix M (me_bin M (me_ix M (me_var M 2) (me_neg M (me_int M))) (me_int M)) (me_var M 2) (me_neg M (me_int M)))
  (mb_nil M)))))) (mb_cons M (ms_set M 5 (me_call M (ma_cons M (me_ix M (me_var M 0) (me_var M 3)) (ma_nil M))))
  (mb_cons M (ms_ife M (mt_cmp M (me_var M 5) (me_non M)) (mb_cons M (ms_ret M (me_bin M (me_var M 3) (me_int M)))
  (mb_nil M)) (mb_nil M))
  (mb_cons M (ms_ex M (me_append M (me_ix M (me_var M 1) (me_neg M (me_int M))) (me_var M 5)))
  (mb_cons M (ms_setix M (me_bin M (me_ix M (me_var M 2) (me_neg M (me_int M))) (me_int M)) (me_var M 2) (me_neg M (me_int M)))
  (mb_nil M))))))
  (mb_nil M)))
  (mb_nil M)))
  (mb_nil M)))
  (mb_cons M (ms_ret M (me_ite M (mt_w M (mw_and M (mt_cmp M (me_bi M (ma_cons M (me_var M 1) (ma_nil M))) (me_int M)) (mw_and1 M (mt_cmp M (me_ix M (me_var M 2) (me_int M)) (me_int M))))) (me_bi M (ma_cons M (me_ix M (me_var M 1) (me_int M)) (ma_nil M))) (me_bi M (ma_cons M (me_var M 0) (ma_nil M)))))
  (mb_nil M)))))
theorem d21 {P : Program} {w : World} {mg : Str → Option Value} {base : Heap} {f : Addr} {cdv : Value} {A0 : Around} {outer : List PySem.Env} {s : Shared} {H : Hp} {E : XK} (M : Mx (cxOf (L2.CX P w) P w K mg base ["script", "tape", "turn", "code", "lines", "text", "again", "k", "other", "near"] "law" (defScope s21) f cdv A0 outer s H E) (mkZ K cla fa) (lvl prg n) (k + 2) W false) (A : XA (cxOf (L2.CX P w) P w K mg base ["script", "tape", "turn", "code", "lines", "text", "again", "k", "other", "near"] "law" (defScope s21) f cdv A0 outer s H E) (mkZ K cla fa) (lvl prg n)) :
    MB (cxOf (L2.CX P w) P w K mg base ["script", "tape", "turn", "code", "lines", "text", "again", "k", "other", "near"] "law" (defScope s21) f cdv A0 outer s H E) (mkZ K cla fa) (lvl prg n) W (defBody s21) ir21 :=
  (mb_cons M (ms_set M 1 (me_call M (ma_cons M (me_var M 0) (ma_nil M))))
  (mb_cons M (ms_for M (mi_rng M (me_int M)) (mg_name M 2) (mb_cons M (ms_set M 3 (me_call M (ma_cons M (me_call M (ma_cons M (me_var M 1) (ma_cons M (me_call M (ma_cons M (me_var M 1) (ma_cons M (me_int M) (ma_nil M)))) (ma_cons M (me_bin M (me_int M) (me_call M (ma_cons M (me_var M 1) (ma_cons M (me_int M) (ma_nil M))))) (ma_nil M))))) (ma_nil M))))
  (mb_cons M (ms_set M 4 (me_call M (ma_cons M (me_var M 3) (ma_nil M))))
  (mb_cons M (ms_set M 5 (me_join M (me_str M) (me_var M 4)))
  (mb_cons M (ms_ife M (mt_w M (mw_or M (mt_not M (mt_of M (me_call M (ma_cons M (me_call M (ma_cons M (me_fn M) (ma_cons M (me_var M 3) (ma_nil M)))) (ma_cons M (me_var M 5) (ma_nil M)))))) (mw_or1 M (mt_not M (mt_of M (me_call M (ma_cons M (me_call M (ma_cons M (me_fn M) (ma_cons M (me_var M 5) (ma_nil M)))) (ma_cons M (me_var M 3) (ma_nil M))))))))) (mb_cons M (ms_ret M (me_bl M))
  (mb_nil M)) (mb_nil M))
  (mb_cons M (ms_for M (mi_rng M (me_int M)) (mg_name M 6) (mb_cons M (ms_set M 7 (me_call M (ma_cons M (me_var M 1) (ma_cons M (me_bi M (ma_cons M (me_var M 4) (ma_nil M))) (ma_nil M)))))
  (mb_cons M (ms_set M 8 (me_call M (ma_cons M (me_var M 1) (ma_cons M (me_bin M (me_var M 4) (me_lst M (ma_cons M (me_str M) (ma_cons M (me_str M) (ma_cons M (me_str M) (ma_cons M (me_str M) (ma_cons M (me_str M) (ma_cons M (me_str M) (ma_cons M (me_str M) (ma_cons M (me_str M) (ma_cons M (me_str M) (ma_cons M (me_str M) (ma_cons M (me_str M) (ma_cons M (me_str M) (ma_cons M (me_str M) (ma_cons M (me_str M) (ma_cons M (me_str M) (ma_nil M)))))))))))))))))) (ma_nil M)))))
  (mb_cons M (ms_set M 9 (me_call M (ma_cons M (me_var M 1) (ma_cons M (me_lst M (ma_cons M (me_bin M (me_slc M (me_var M 4) (mo_none M) (mo_some M (me_var M 7))) (me_slc M (me_var M 4) (mo_some M (me_bin M (me_var M 7) (me_int M))) (mo_none M))) (ma_cons M (me_bin M (me_bin M (me_slc M (me_var M 4) (mo_none M) (mo_some M (me_var M 7))) (me_lst M (ma_cons M (me_var M 8) (ma_nil M)))) (me_slc M (me_var M 4) (mo_some M (me_var M 7)) (mo_none M))) (ma_cons M (me_bin M (me_bin M (me_slc M (me_var M 4) (mo_none M) (mo_some M (me_var M 7))) (me_lst M (ma_cons M (me_var M 8) (ma_nil M)))) (me_slc M (me_var M 4) (mo_some M (me_bin M (me_var M 7) (me_int M))) (mo_none M))) (ma_cons M (me_bin M (me_var M 4) (me_lst M (ma_cons M (me_str M) (ma_nil M)))) (ma_cons M (me_rev M (me_var M 4)) (ma_nil M))))))) (ma_nil M)))))
  (mb_cons M (ms_set M 9 (me_ite M (mt_cmp M (me_bi M (ma_cons M (me_var M 9) (ma_nil M))) (me_int M)) (me_var M 9) (me_lst M (ma_cons M (me_str M) (ma_nil M)))))
  (mb_cons M (ms_ife M (mt_not M (mt_of M (me_call M (ma_cons M (me_call M (ma_cons M (me_fn M) (ma_cons M (me_join M (me_str M) (me_var M 9)) (ma_nil M)))) (ma_cons M (me_call M (ma_cons M (me_var M 9) (ma_nil M))) (ma_nil M)))))) (mb_cons M (ms_ret M (me_bl M))
  (mb_nil M)) (mb_nil M))
  (mb_nil M)))))))
  (mb_cons M (ms_ife M (mt_cmp M (me_call M (ma_cons M (me_fn M) (ma_cons M (me_call M (ma_cons M (me_var M 1) (ma_cons M (me_lst M (ma_cons M (me_non M) (ma_cons M (me_int M) (ma_cons M (me_var M 4) (ma_cons M (me_bin M (me_str M) (me_int M)) (ma_nil M)))))) (ma_nil M)))) (ma_nil M)))) (me_int M)) (mb_cons M (ms_ret M (me_bl M))
  (mb_nil M)) (mb_nil M))
  (mb_cons M (ms_ife M (mt_not M (mt_of M (me_call M (ma_cons M (me_call M (ma_cons M (me_fn M) (ma_cons M (me_call M (ma_cons M (me_var M 1) (ma_cons M (me_lst M (ma_cons M (me_non M) (ma_cons M (me_bi M (ma_cons M (me_var M 3) (ma_nil M))) (ma_cons M (me_tup M (ma_nil M)) (ma_cons M (me_bin M (me_var M 3) (me_tup M (ma_cons M (me_tup M (ma_cons M (me_str M) (ma_nil M))) (ma_nil M)))) (ma_cons M (me_tup M (ma_cons M (me_tup M (ma_cons M (me_str M) (ma_cons M (me_bl M) (ma_nil M)))) (ma_nil M))) (ma_nil M))))))) (ma_nil M)))) (ma_nil M)))) (ma_cons M (me_tup M (ma_cons M (me_str M) (ma_cons M (me_str M) (ma_nil M)))) (ma_nil M)))))) (mb_cons M (ms_ret M (me_bl M))
  (mb_nil M)) (mb_nil M))
  (mb_nil M)))))))))
  (mb_cons M (ms_ret M (me_bl M))
  (mb_nil M))))
theorem d22 {P : Program} {w : World} {mg : Str → Option Value} {base : Heap} {f : Addr} {cdv : Value} {A0 : Around} {outer : List PySem.Env} {s : Shared} {H : Hp} {E : XK} (M : Mx (cxOf (L2.CX P w) P w K mg base ["self"] "Open.__init__" (defScope s22) f cdv A0 outer s H E) (mkZ K cla fa) (lvl prg n) (k + 2) W false) (A : XA (cxOf (L2.CX P w) P w K mg base ["self"] "Open.__init__" (defScope s22) f cdv A0 outer s H E) (mkZ K cla fa) (lvl prg n)) :
    MB (cxOf (L2.CX P w) P w K mg base ["self"] "Open.__init__" (defScope s22) f cdv A0 outer s H E) (mkZ K cla fa) (lvl prg n) W (defBody s22) ir22 :=
  (mb_cons M (ms_setat M (me_lst M (ma_nil M)) (me_var M 0))
  (mb_cons M (ms_setat M (me_int M) (me_var M 0))
  (mb_nil M)))
theorem d23 {P : Program} {w : World} {mg : Str → Option Value} {base : Heap} {f : Addr} {cdv : Value} {A0 : Around} {outer : List PySem.Env} {s : Shared} {H : Hp} {E : XK} (M : Mx (cxOf (L2.CX P w) P w K mg base ["self", "order"] "Open.take" (defScope s23) f cdv A0 outer s H E) (mkZ K cla fa) (lvl prg n) (k + 2) W false) (A : XA (cxOf (L2.CX P w) P w K mg base ["self", "order"] "Open.take" (defScope s23) f cdv A0 outer s H E) (mkZ K cla fa) (lvl prg n)) :
    MB (cxOf (L2.CX P w) P w K mg base ["self", "order"] "Open.take" (defScope s23) f cdv A0 outer s H E) (mkZ K cla fa) (lvl prg n) W (defBody s23) ir23 :=
  (mb_cons M (ms_ex M (me_append M (me_att M (me_var M 0)) (me_var M 1)))
  (mb_cons M (ms_augat M (me_int M) (me_var M 0))
  (mb_nil M)))
theorem d24 {P : Program} {w : World} {mg : Str → Option Value} {base : Heap} {f : Addr} {cdv : Value} {A0 : Around} {outer : List PySem.Env} {s : Shared} {H : Hp} {E : XK} (M : Mx (cxOf (L2.CX P w) P w K mg base ["self"] "Reading.__init__" (defScope s24) f cdv A0 outer s H E) (mkZ K cla fa) (lvl prg n) (k + 2) W false) (A : XA (cxOf (L2.CX P w) P w K mg base ["self"] "Reading.__init__" (defScope s24) f cdv A0 outer s H E) (mkZ K cla fa) (lvl prg n)) :
    MB (cxOf (L2.CX P w) P w K mg base ["self"] "Reading.__init__" (defScope s24) f cdv A0 outer s H E) (mkZ K cla fa) (lvl prg n) W (defBody s24) ir24 :=
  (mb_cons M (ms_setat M (me_lst M (ma_cons M (me_new0 M) (ma_nil M))) (me_var M 0))
  (mb_nil M))
theorem d25 {P : Program} {w : World} {mg : Str → Option Value} {base : Heap} {f : Addr} {cdv : Value} {A0 : Around} {outer : List PySem.Env} {s : Shared} {H : Hp} {E : XK} (M : Mx (cxOf (L2.CX P w) P w K mg base ["self", "line", "now", "number"] "Reading.is_read" (defScope s25) f cdv A0 outer s H E) (mkZ K cla fa) (lvl prg n) (k + 2) W false) (A : XA (cxOf (L2.CX P w) P w K mg base ["self", "line", "now", "number"] "Reading.is_read" (defScope s25) f cdv A0 outer s H E) (mkZ K cla fa) (lvl prg n)) :
    MB (cxOf (L2.CX P w) P w K mg base ["self", "line", "now", "number"] "Reading.is_read" (defScope s25) f cdv A0 outer s H E) (mkZ K cla fa) (lvl prg n) W (defBody s25) ir25 :=
  (mb_cons M (ms_set M 2 (me_ix M (me_att M (me_var M 0)) (me_neg M (me_int M))))
  (mb_cons M (ms_ife M (mt_cmp M (me_var M 1) (me_str M)) (mb_cons M (ms_ex M (me_append M (me_att M (me_var M 2)) (me_tup M (ma_cons M (me_str M) (ma_nil M)))))
  (mb_cons M (ms_augat M (me_int M) (me_var M 2))
  (mb_cons M (ms_ret M (me_cmp M (me_att M (me_var M 2)) (me_int M)))
  (mb_nil M)))) (mb_nil M))
  (mb_cons M (ms_ife M (mt_cmp M (me_var M 1) (me_str M)) (mb_cons M (ms_ex M (me_append M (me_att M (me_var M 0)) (me_new0 M)))
  (mb_cons M (ms_ret M (me_bl M))
  (mb_nil M))) (mb_nil M))
  (mb_cons M (ms_ife M (mt_cmp M (me_var M 1) (me_str M)) (mb_cons M (ms_ret M (me_mth0 M (me_var M 0)))
  (mb_nil M)) (mb_nil M))
  (mb_cons M (ms_ife M (mt_of M (me_startswith M (me_var M 1) (me_str M))) (mb_cons M (ms_set M 3 (me_call M (ma_cons M (me_slc M (me_var M 1) (mo_some M (me_int M)) (mo_none M)) (ma_nil M))))
  (mb_cons M (ms_ex M (me_mth M (me_var M 2) (ma_cons M (me_tup M (ma_cons M (me_str M) (ma_cons M (me_var M 3) (ma_nil M)))) (ma_nil M))))
  (mb_cons M (ms_ret M (me_cmp M (me_var M 3) (me_non M)))
  (mb_nil M)))) (mb_nil M))
  (mb_cons M (ms_ex M (me_mth M (me_var M 2) (ma_cons M (me_tup M (ma_cons M (me_str M) (ma_cons M (me_slc M (me_var M 1) (mo_some M (me_int M)) (mo_none M)) (ma_nil M)))) (ma_nil M))))
  (mb_cons M (ms_ret M (me_and M (me_startswith M (me_var M 1) (me_str M)) (me_one M (me_call M (ma_cons M (me_slc M (me_var M 1) (mo_some M (me_int M)) (mo_none M)) (ma_nil M))))))
  (mb_nil M))))))))
theorem d26 {P : Program} {w : World} {mg : Str → Option Value} {base : Heap} {f : Addr} {cdv : Value} {A0 : Around} {outer : List PySem.Env} {s : Shared} {H : Hp} {E : XK} (M : Mx (cxOf (L2.CX P w) P w K mg base ["self", "code"] "Reading.is_ended" (defScope s26) f cdv A0 outer s H E) (mkZ K cla fa) (lvl prg n) (k + 2) W false) (A : XA (cxOf (L2.CX P w) P w K mg base ["self", "code"] "Reading.is_ended" (defScope s26) f cdv A0 outer s H E) (mkZ K cla fa) (lvl prg n)) :
    MB (cxOf (L2.CX P w) P w K mg base ["self", "code"] "Reading.is_ended" (defScope s26) f cdv A0 outer s H E) (mkZ K cla fa) (lvl prg n) W (defBody s26) ir26 :=
  (mb_cons M (ms_ife M (mt_w M (mw_or M (mt_cmp M (me_bi M (ma_cons M (me_att M (me_var M 0)) (ma_nil M))) (me_int M)) (mw_or1 M (mt_cmp M (me_att M (me_ix M (me_att M (me_var M 0)) (me_neg M (me_int M)))) (me_int M))))) (mb_cons M (ms_ret M (me_bl M))
  (mb_nil M)) (mb_nil M))
  (mb_cons M (ms_set M 1 (me_bi M (ma_cons M (me_att M (me_pop M (me_att M (me_var M 0)))) (ma_nil M))))
  (mb_cons M (ms_ex M (me_mth M (me_ix M (me_att M (me_var M 0)) (me_neg M (me_int M))) (ma_cons M (me_tup M (ma_cons M (me_str M) (ma_cons M (me_var M 1) (ma_nil M)))) (ma_nil M))))
  (mb_cons M (ms_ret M (me_bl M))
  (mb_nil M)))))
end
end K49
end Mini
end L2
namespace L2
namespace Mini
namespace K49
open PySem PySem.Spec PyProof.Rows
local macro_rules | `(tactic| walk_at "s") => `(tactic| first | with_reducible refine st_set ?_ | with_reducible refine st_ife ?_ | with_reducible refine st_ret ?_ | with_reducible refine st_ex ?_ | with_reducible refine st_unp ?_ | with_reducible refine st_unpl ?_ | with_reducible refine st_unpa ?_ | with_reducible refine st_aug ?_ | with_reducible refine st_for ?_ | with_reducible refine st_whl ?_ | with_reducible refine st_nil ?_ | with_reducible refine st_setix ?_ | with_reducible refine st_raise ?_ | with_reducible refine st_try ?_ | with_reducible refine st_setat ?_ | with_reducible refine st_augat ?_ | with_reducible refine st_pass ?_ | with_reducible refine st_brk ?_ | with_reducible refine st_cnt ?_)
local macro_rules | `(tactic| walk_at "e") => `(tactic| try simp only [fget, fput, eq_self, Nat.reduceEqDiff, and_true, Int.reduceBEq, wpC, goW, List.map_cons, List.map_nil, deq, deqs, List.any_cons, List.any_nil, slW, cut_1, Int.cast_ofNat_Int, Int.natCast_zero, Int.natCast_one, Int.reduceLE, Int.reduceLT, Int.reduceNeg, Int.reduceAdd, Int.reduceSub, decide_true, decide_false, inW_chr, List.contains_cons, List.contains_nil, Bool.or_true, Bool.true_or, Bool.or_false, Bool.false_or, gd, gds, List.all_cons, List.all_nil, Nat.reduceLT, List.zip_cons_cons, List.zip_nil_left, List.foldl_cons, List.foldl_nil, wpT, wpE, wpEs, wpO, wpI, env0, Env.get, List.map, List.length, List.replicate, List.getElem?_cons_zero, List.getElem?_cons_succ, List.nil_append, List.cons_append, List.append_nil, tru, isiW, cmpW, List.set, Nat.reduceSub, Nat.reduceAdd, Bool.not_true, Bool.not_false, Bool.false_eq_true, if_true, if_false, reduceIte, ixW, biW, bmTy, augW, tgW, newW, wpPs, dmerge, sqW_t, sqW_s, binW_ai, binW_si, binW_at, binW_as, binW_mi, binW_di, binW_mo, atI_0, atI_1, atI_2, ex_some, eqW_str, eqW_int, sz0, sz1, sz2, sz3, sz4, sz5, sz6, sz7, sz8, sz9, sz10, sz11, sz12, sz13, sz14, true_and, Bool.false_xor, Bool.true_xor, lb_cc, lb_nc, lb_cn, lb_nn, Nat.reduceBEq, Bool.and_true, Bool.true_and, Bool.false_and, Bool.and_false, beq_self_eq_true, binW_ms])
local macro_rules | `(tactic| walk_at "r") => `(tactic| ((try walk_at "s"); walk_at "e"; repeat (walk_at "s"; walk_at "e")))
local macro_rules | `(tactic| walk_at "w") => `(tactic| simp only [wpSs, wpS, wpT, wpE, wpEs, wpO, wpI, env0, Env.get, List.map, List.length, List.replicate, List.getElem?_cons_zero, List.getElem?_cons_succ, List.nil_append, List.cons_append, List.append_nil, tru, isiW, cmpW, List.set, Nat.reduceSub, Nat.reduceAdd, Bool.not_true, Bool.not_false, Bool.false_eq_true, if_true, if_false, reduceIte, ixW, biW, bmTy, sqW_t, sqW_s, binW_ai, binW_si, binW_at, binW_as, binW_mi, binW_di, binW_mo, atI_0, atI_1, atI_2, ex_some, eqW_str, eqW_int, sz0, sz1, sz2, sz3, sz4, sz5, sz6, sz7, sz11, true_and, Bool.false_xor, Bool.true_xor, lb_cc, lb_nc, lb_cn, lb_nn, Nat.reduceBEq, Bool.and_true, Bool.true_and, Bool.false_and, Bool.and_false, beq_self_eq_true])
local macro_rules | `(tactic| walk_at "q") => `(tactic| refine eqW_of rfl rfl (Nat.le_of_ble_eq_true rfl) ?_)
local macro_rules | `(tactic| walk_at "g") => `(tactic| (walk_at "r"; repeat (walk_at "q"; walk_at "r")))
abbrev tail_draw : Stms := (.cons (.ife (.cmp .gt (.bi .len (.cons (.var 2) .nil)) (.lit (.int 0))) (.cons (.set 3 (.ix (.var 2) (.lit (.int 0)))) (.cons (.setix (.var 2) (.lit (.int 0)) (.bin .fdiv (.var 3) (.var 1))) (.cons (.ret (.bin .mod (.bi .int (.cons (.var 3) .nil)) (.var 1))) .nil))) .nil)
      (.cons (.setix (.var 0) (.lit (.int 1)) (.bin .mod (.bi .int (.cons (.bin .add (.bin .mul (.ix (.var 0) (.lit (.int 1))) (.lit (.int 48271))) (.lit (.int 12345))) .nil)) (.lit (.int 2147483647)))) (.cons (.ret (.bin .mod (.bi .int (.cons (.bin .fdiv (.ix (.var 0) (.lit (.int 1))) (.lit (.int 64))) .nil)) (.var 1))) .nil)))
theorem tail_draw_ok {t c : Addr} {m n : Nat} {S : Sto} {K : En} {X : EX} (h0 : 0 < m) (hm : m < 1000000) (ne : c ≠ t) {s : Int} (hs : S t = some (.lst [.ref c, .int s])) {l : List Int} (hl : S c = some (.lst (l.map D.int)))
    (q : ∀ (i : Int) S', Tp t c S' → Sd t c S S' → K.rt (.int (i.fmod (m : Int))) S') : wpSs (lvl prg n) tail_draw K X [some (.ref t), some (.int m), some (.ref c), none] S := by
  have hm0 : (m : Int) ≠ 0 := by omega
  cases l with
  | nil =>
    walk_at "s"; walk_at "e"
    simp only [hl]
    walk_at "e"
    walk_at "s"
    walk_at "s"; walk_at "e"
    simp only [hs]
    walk_at "e"
    refine ⟨.inr (by unfold smallI; omega), by omega, ?_⟩
    unfold setixW
    simp only [hs]
    refine ⟨1, rfl, ?_⟩
    walk_at "s"; walk_at "e"
    simp only [Sto.upd_same, List.set]
    walk_at "e"
    refine ⟨by omega, by decide, hm0, q _ _ ⟨ne, ⟨_, Sto.upd_same⟩, [], by rw [Sto.upd_ne ne]; exact hl⟩ fun a d h1 h2 h => by rw [Sto.upd_ne h1]; exact h⟩
  | cons a l =>
    have h1 : decide ((0 : Int) < (((a :: l).map D.int).length : Int)) = true := decide_eq_true (by simp only [List.length_map, List.length_cons]; omega)
    walk_at "s"; walk_at "e"
    simp only [hl, h1]
    walk_at "e"
    walk_at "s"; walk_at "e"
    simp only [hl]
    walk_at "e"
    walk_at "s"; walk_at "e"
    refine ⟨hm0, by omega, ?_⟩
    unfold setixW
    simp only [hl]
    refine ⟨0, ixN_0 (by simp), ?_⟩
    walk_at "s"; walk_at "e"
    refine ⟨hm0, q a _ ⟨ne, ⟨s, by rw [Sto.upd_ne (fun e => ne e.symm)]; exact hs⟩, (a.fdiv (m : Int)) :: l, by rw [Sto.upd_same]; rfl⟩ fun b d h1 h2 h => by rw [Sto.upd_ne h2]; exact h⟩
theorem w_draw {t c : Addr} {m : Nat} {n : Nat} {S : Sto} {Q : QD} {E : QX} (h : Tp t c S) (h0 : 0 < m) (hm : m < 1000000) (q : ∀ (r : Nat) S', r < m → Tp t c S' → Sd t c S S' → Q (.int r) S') : (lvl prg (n + 1)).fn 12 [.ref t, .int m] S Q E := by
  obtain ⟨ne, ⟨s, hs⟩, l, hl⟩ := h
  have fin : ∀ (i : Int) S', Tp t c S' → Sd t c S S' → Q (.int (i.fmod (m : Int))) S' := fun i S' h x => by
    obtain ⟨h1, h2⟩ := fmod_lt (i := i) (m := (m : Int)) (by omega)
    have e : i.fmod (m : Int) = (((i.fmod (m : Int)).toNat : Nat) : Int) := by omega
    rw [e]
    exact q _ S' (by omega) h x
  refine ⟨rfl, ?_⟩
  unfold ir12
  walk_at "s"; walk_at "e"
  simp only [hs]
  walk_at "e"
  walk_at "s"
  refine ⟨fun k σ S' => σ = [some (.ref t), some (.int m), some (.ref c), none] ∧ S' t = some (.lst [.ref c, .int s]) ∧ Sd t c S S' ∧ ∃ l : List Int, S' c = some (.lst (l.map D.int)) ∧ k = l.length, ⟨l.length, rfl, hs, Sd.refl _ _ _, l, hl, rfl⟩, ?_⟩
  rintro k σ S1 ⟨rfl, hs1, x1, l1, hl1, rfl⟩
  have tl : wpSs (lvl prg n) tail_draw { nx := fun _ S' => Q D.non S', rt := Q } (fun x _ S' => E x S') [some (.ref t), some (.int m), some (.ref c), none] S1 := tail_draw_ok h0 hm ne hs1 hl1 fun i S' h x => fin i S' h (x1.trans x)
  walk_at "e"
  simp only [hl1]
  cases l1 with
  | nil =>
    walk_at "e"
    exact tl
  | cons a l1 =>
    have h1 : decide ((0 : Int) < (((a :: l1).map D.int).length : Int)) = true := decide_eq_true (by simp only [List.length_map, List.length_cons]; omega)
    simp only [h1]
    walk_at "e"
    cases ha : (a == 0) with
    | false =>
      walk_at "e"
      exact tl
    | true =>
      walk_at "e"
      walk_at "s"; walk_at "e"
      refine ⟨⟨_, hl1⟩, ?_⟩
      unfold bmW
      simp only [hl1]
      refine ⟨⟨by omega, by omega⟩, 0, .int a, ixN_0 (by simp), rfl, ?_⟩
      walk_at "s"
      refine ⟨l1.length, by simp, rfl, by rw [Sto.upd_ne (fun e => ne e.symm)]; exact hs1, fun b d q1 q2 q3 => by rw [Sto.upd_ne q2]; exact x1 b d q1 q2 q3, l1, by rw [Sto.upd_same]; rfl, rfl⟩
theorem w_pick {t c a : Addr} {row : List D} {n : Nat} {S : Sto} {Q : QD} {E : QX} (h : Tp t c S) (ha : S a = some (.lst row)) (nt : a ≠ t) (nc : a ≠ c) (h0 : 0 < row.length) (hm : row.length < 1000000) (q : ∀ (d : D) S', d ∈ row → Tp t c S' → Sd t c S S' → Q d S') : (lvl prg (n + 2)).fn 13 [.ref t, .ref a] S Q E := by
  refine ⟨rfl, ?_⟩
  unfold ir13
  walk_at "s"; walk_at "e"
  simp only [ha]
  refine w_draw h h0 hm fun r S1 hr h1 x1 => ?_
  have ha1 := x1 _ _ nt nc ha
  simp only [ha1]
  rw [atI_nat, List.getElem?_eq_getElem hr]
  exact ⟨_, rfl, q _ S1 (List.getElem_mem hr) h1 x1⟩
theorem for_tape {n : Nat} {a : Addr} {S : Sto} {K : En} {X : EX} (q : ∀ (s : Int) o, K.nx [some (.ref a), some (.int s), o] S) : ∀ (l l0 : List Int) (s : Int) (o : Option D), rd S a = some (l0.map D.int) →
    forW (liveL a (l0.map D.int)) (.nm 2) (fun K σ S => wpSs (lvl prg n) (forBody ir11) K X σ S) K (l.map D.int) [some (.ref a), some (.int s), o] S
  | [], l0, s, o, h => ⟨h, q s o⟩
  | i :: l, l0, s, o, h => by
    refine forW_step h rfl fun K' knx _ krt _ => ?_
    dsimp only [forBody, ir11]
    walk_at "s"; walk_at "e"
    refine ⟨.inr (by unfold smallI; omega), by decide, ?_⟩
    walk_at "s"
    exact knx _ _ (for_tape q l l0 _ _ h)
theorem w_tape {a : Addr} {l : List Int} {n : Nat} {S : Sto} {Q : QD} {E : QX} (h : rd S a = some (l.map D.int)) (hl : l.length ≤ 63) (q : ∀ t c S', Tp t c S' → Sx S S' → Q (.ref t) S') : (lvl prg (n + 1)).fn 11 [.ref a] S Q E := by
  refine ⟨rfl, ?_⟩
  unfold ir11
  walk_at "s"; walk_at "e"
  walk_at "s"; walk_at "e"
  refine sqW_r h ?_
  refine for_tape (fun s o => ?_) l l _ none h
  dsimp only
  walk_at "s"; walk_at "e"
  refine sqW_r h ?_
  intro p hp
  refine goW_map (p := p) (N := 63) (fun d => match d with | .int i => some (.int (if i < 0 then -i else i)) | _ => none) (fun S S' x lv => ?_) _ [] _ (by simpa using hl) (fun d hd S1 acc K x1 h1 hn k => ?_) Sto.upd_same ?_ fun S2 x2 h2 _ => ?_
  · exact rd_sxb x (fun e => by rw [e] at h; unfold rd at h; rw [hp] at h; cases h) lv
  · obtain ⟨i, _, rfl⟩ := List.mem_map.mp hd
    walk_at "e"
    refine ⟨acc, h1, ?_, k _ Sxb.put (by rw [Sto.upd_same]; rfl)⟩
    exact of_eq_true (sz_lt (by omega))
  · exact rd_sx (Sx.new hp) h
  · walk_at "e"
    intro t ht
    have nt : p ≠ t := new_ne h2 ht
    have e : ∀ l : List Int, (l.map D.int).filterMap (fun d => match d with | .int i => some (D.int (if i < 0 then -i else i)) | _ => none) = (l.map fun i => if i < 0 then -i else i).map D.int := fun l => by
      induction l with
      | nil => rfl
      | cons i l ih => simp [ih]
    refine q t p _ ⟨nt, ⟨_, Sto.upd_same⟩, _, by rw [Sto.upd_ne nt, h2, e]; rfl⟩ (((Sx.new hp).b.trans x2).of_new hp |>.trans (Sx.new ht))
theorem w_same : ∀ {n : Nat} {d : D} {S : Sto} {Q : QD} {E : QX}, dd d + 1 ≤ n → pl d = true → (∀ S', Sx S S' → Q (.bl true) S') → (lvl prg n).fn 14 [d, d] S Q E := by
  intro n
  induction n with
  | zero => intro d S Q E hn; omega
  | succ n ih =>
  intro d S Q E hn h q
  refine ⟨rfl, ?_⟩
  unfold ir14
  cases d with
  | non => cases h
  | bl b => cases h
  | ref a => cases h
  | fn f => cases h
  | int i =>
    walk_at "s"; walk_at "e"
    walk_at "s"; walk_at "s"; walk_at "e"
    walk_at "s"; walk_at "s"; walk_at "e"
    walk_at "s"; walk_at "e"
    exact q S (Sx.refl S)
  | str l =>
    walk_at "s"; walk_at "e"
    walk_at "s"; walk_at "s"; walk_at "e"
    walk_at "s"; walk_at "s"; walk_at "e"
    walk_at "s"; walk_at "s"; walk_at "e"
    walk_at "s"; walk_at "e"
    exact q S (Sx.refl S)
  | tup ds =>
    simp only [pl, Bool.and_eq_true, decide_eq_true_eq] at h
    simp only [dd] at hn
    walk_at "s"; walk_at "e"
    walk_at "s"; walk_at "s"; walk_at "e"
    walk_at "s"; walk_at "s"; walk_at "e"
    walk_at "s"; walk_at "s"; walk_at "e"
    walk_at "s"; walk_at "s"; walk_at "e"
    refine eqW_of rfl rfl (by decide) ?_
    walk_at "e"
    refine eqW_of rfl rfl (by decide) ?_
    walk_at "e"
    walk_at "s"; walk_at "s"; walk_at "e"
    walk_at "s"; walk_at "s"; walk_at "e"
    refine ⟨by omega, by omega, fun p hp => ?_⟩
    have hlen : ((ds.length : Int)).toNat = ds.length := by omega
    refine goW_map (p := p) (N := 1000) (fun _ => some (.bl true)) (fun _ _ _ _ => True.intro) _ [] _ (by simp [rngD]; omega) (fun d hd S1 acc K x1 h1 hk k => ?_) Sto.upd_same True.intro fun S2 x2 h2 _ => ?_
    · unfold rngD at hd
      obtain ⟨j, hj, rfl⟩ := List.mem_map.mp hd
      have hj := List.mem_range.mp hj
      rw [hlen] at hj
      have e0 : (0 + (j : Int)) = (j : Int) := by omega
      rw [e0]
      have hg := List.getElem?_eq_getElem hj
      obtain ⟨hp1, hd1⟩ := pls_get h.2 hg
      walk_at "e"
      rw [atI_nat, hg]
      refine ⟨_, rfl, _, rfl, ?_⟩
      refine ih (by omega) hp1 fun S3 x3 => ?_
      exact ⟨acc, x3 _ _ h1, of_eq_true (sz_lt (by omega)), k _ (x3.b.trans Sxb.put) (by rw [Sto.upd_same]; rfl)⟩
    · have er := fm_true (rngD 0 ((ds.length : Int)).toNat)
      rw [List.nil_append, er] at h2
      refine inW_lst (rd_lst h2) rfl (trues_gd _) (by decide) ?_
      rw [trues_any]
      exact q S2 ((Sxb.put.trans x2).of_new hp)
theorem lvl_xfl (n : Nat) : (lvl prg n).xfl = xfl := by cases n <;> rfl
theorem lvl_xsub (n : Nat) : (lvl prg n).xsub = xsub := by cases n <;> rfl
theorem lvl_nfn (n : Nat) : (lvl prg n).nfn = 22 := by cases n <;> rfl
theorem w_same_non {n : Nat} {S : Sto} {Q : QD} {E : QX} (q : Q (.bl true) S) : (lvl prg (n + 1)).fn 14 [.non, .non] S Q E := by
  refine ⟨rfl, ?_⟩
  unfold ir14
  walk_at "r"
  exact q
end K49
end Mini
end L2
namespace L2
namespace Mini
namespace K49
open PySem PySem.Spec PyProof.Rows
local macro_rules | `(tactic| walk_at "s") => `(tactic| first | with_reducible refine st_set ?_ | with_reducible refine st_ife ?_ | with_reducible refine st_ret ?_ | with_reducible refine st_ex ?_ | with_reducible refine st_unp ?_ | with_reducible refine st_unpl ?_ | with_reducible refine st_unpa ?_ | with_reducible refine st_aug ?_ | with_reducible refine st_for ?_ | with_reducible refine st_whl ?_ | with_reducible refine st_nil ?_ | with_reducible refine st_setix ?_ | with_reducible refine st_raise ?_ | with_reducible refine st_try ?_ | with_reducible refine st_setat ?_ | with_reducible refine st_augat ?_ | with_reducible refine st_pass ?_ | with_reducible refine st_brk ?_ | with_reducible refine st_cnt ?_)
local macro_rules | `(tactic| walk_at "e") => `(tactic| try simp only [fget, fput, eq_self, Nat.reduceEqDiff, and_true, Int.reduceBEq, wpC, goW, List.map_cons, List.map_nil, deq, deqs, List.any_cons, List.any_nil, slW, cut_1, Int.cast_ofNat_Int, Int.natCast_zero, Int.natCast_one, Int.reduceLE, Int.reduceLT, Int.reduceNeg, Int.reduceAdd, Int.reduceSub, decide_true, decide_false, inW_chr, List.contains_cons, List.contains_nil, Bool.or_true, Bool.true_or, Bool.or_false, Bool.false_or, gd, gds, List.all_cons, List.all_nil, Nat.reduceLT, List.zip_cons_cons, List.zip_nil_left, List.foldl_cons, List.foldl_nil, wpT, wpE, wpEs, wpO, wpI, env0, Env.get, List.map, List.length, List.replicate, List.getElem?_cons_zero, List.getElem?_cons_succ, List.nil_append, List.cons_append, List.append_nil, tru, isiW, cmpW, List.set, Nat.reduceSub, Nat.reduceAdd, Bool.not_true, Bool.not_false, Bool.false_eq_true, if_true, if_false, reduceIte, ixW, biW, bmTy, augW, tgW, newW, wpPs, dmerge, sqW_t, sqW_s, binW_ai, binW_si, binW_at, binW_as, binW_mi, binW_di, binW_mo, atI_0, atI_1, atI_2, ex_some, eqW_str, eqW_int, sz0, sz1, sz2, sz3, sz4, sz5, sz6, sz7, sz8, sz9, sz10, sz11, sz12, sz13, sz14, true_and, Bool.false_xor, Bool.true_xor, lb_cc, lb_nc, lb_cn, lb_nn, Nat.reduceBEq, Bool.and_true, Bool.true_and, Bool.false_and, Bool.and_false, beq_self_eq_true, binW_ms])
local macro_rules | `(tactic| walk_at "r") => `(tactic| ((try walk_at "s"); walk_at "e"; repeat (walk_at "s"; walk_at "e")))
local macro_rules | `(tactic| walk_at "w") => `(tactic| simp only [wpSs, wpS, wpT, wpE, wpEs, wpO, wpI, env0, Env.get, List.map, List.length, List.replicate, List.getElem?_cons_zero, List.getElem?_cons_succ, List.nil_append, List.cons_append, List.append_nil, tru, isiW, cmpW, List.set, Nat.reduceSub, Nat.reduceAdd, Bool.not_true, Bool.not_false, Bool.false_eq_true, if_true, if_false, reduceIte, ixW, biW, bmTy, sqW_t, sqW_s, binW_ai, binW_si, binW_at, binW_as, binW_mi, binW_di, binW_mo, atI_0, atI_1, atI_2, ex_some, eqW_str, eqW_int, sz0, sz1, sz2, sz3, sz4, sz5, sz6, sz7, sz11, true_and, Bool.false_xor, Bool.true_xor, lb_cc, lb_nc, lb_cn, lb_nn, Nat.reduceBEq, Bool.and_true, Bool.true_and, Bool.false_and, Bool.and_false, beq_self_eq_true])
local macro_rules | `(tactic| walk_at "q") => `(tactic| refine eqW_of rfl rfl (Nat.le_of_ble_eq_true rfl) ?_)
local macro_rules | `(tactic| walk_at "g") => `(tactic| (walk_at "r"; repeat (walk_at "q"; walk_at "r")))
theorem w_int {n : Nat} {S : Sto} {Q : QD} {E : QX} {i lo hi : Int} (q : Q (.bl (decide (lo ≤ i) && decide (i ≤ hi))) S) : (lvl prg (n + 1)).fn 0 [.int i, .int lo, .int hi] S Q E := by
  refine ⟨rfl, ?_⟩
  unfold ir0
  walk_at "w"
  by_cases h : lo ≤ i
  · simp only [h, decide_true, Bool.true_and] at q ⊢
    exact q
  · simp only [h, decide_false, Bool.false_and] at q ⊢
    exact q
theorem w_int_bl {n : Nat} {S : Sto} {Q : QD} {E : QX} {b : Bool} {lo hi : Int} (q : Q (.bl false) S) : (lvl prg (n + 1)).fn 0 [.bl b, .int lo, .int hi] S Q E := by
  refine ⟨rfl, ?_⟩
  unfold ir0
  walk_at "w"
  exact q
theorem low_or (a : Nat) : (a == 97 || (a == 98 || (a == 99 || (a == 100 || (a == 101 || (a == 102 || (a == 103 || (a == 104 || (a == 105 || (a == 106 || (a == 107 || (a == 108 || (a == 109 || (a == 110 || (a == 111 || (a == 112 || (a == 113 || (a == 114 || (a == 115 || (a == 116 || (a == 117 || (a == 118 || (a == 119 || (a == 120 || (a == 121 || a == 122))))))))))))))))))))))))) = low a := by
  rw [Bool.eq_iff_iff]
  simp only [low, Bool.or_eq_true, beq_iff_eq, Bool.and_eq_true, decide_eq_true_eq]
  omega
theorem dig_or (a : Nat) : (a == 48 || (a == 49 || (a == 50 || (a == 51 || (a == 52 || (a == 53 || (a == 54 || (a == 55 || (a == 56 || a == 57))))))))) = dig a := by
  rw [Bool.eq_iff_iff]
  simp only [dig, Bool.or_eq_true, beq_iff_eq, Bool.and_eq_true, decide_eq_true_eq]
  omega
theorem w_name {l : List Nat} {n : Nat} {S : Sto} {Q : QD} {E : QX} (hg : l.all (fun c => decide (c < 0x110000)) = true) (hz : l.length ≤ 1000000) (q : ∀ S', Sx S S' → Q (.bl (nameB l)) S') : (lvl prg (n + 1)).fn 1 [.str l] S Q E := by
  have qf : nameB l = false → Q (.bl false) S := fun h => by rw [← h]; exact q S (Sx.refl S)
  refine ⟨rfl, ?_⟩
  unfold ir1
  walk_at "s"; walk_at "e"
  refine ⟨of_eq_true (sz_le hz), ?_⟩
  cases h1 : decide ((1 : Int) ≤ (l.length : Int)) with
  | false =>
    walk_at "r"
    have h1 := of_decide_eq_false h1
    refine qf ?_
    unfold nameB
    rw [decide_eq_false (show ¬ (1 ≤ l.length) by omega)]
    rfl
  | true =>
    have h1 := of_decide_eq_true h1
    walk_at "e"
    cases h2 : decide ((l.length : Int) ≤ 12) with
    | false =>
      walk_at "r"
      have h2 := of_decide_eq_false h2
      refine qf ?_
      have e2 : decide (l.length ≤ 12) = false := decide_eq_false (by omega)
      unfold nameB
      rw [e2, Bool.and_false]
      rfl
    | true =>
      have h2 := of_decide_eq_true h2
      walk_at "e"
      refine inW_tup (by simpa [gd] using hg) rfl (by simp [dd]) ?_
      walk_at "e"
      have ea : decide (1 ≤ l.length) = true := decide_eq_true (by omega)
      have eb : decide (l.length ≤ 12) = true := decide_eq_true (by omega)
      cases h3 : ([108, 101, 116] == l || [105, 110] == l) with
      | true =>
        walk_at "r"
        refine qf ?_
        rw [Bool.or_eq_true, beq_iff_eq, beq_iff_eq] at h3
        rcases h3 with rfl | rfl <;> rfl
      | false =>
        rw [Bool.or_eq_false_iff] at h3
        have e3 : (l == [108, 101, 116]) = false := by rw [← h3.1]; exact BEq.comm
        have e4 : (l == [105, 110]) = false := by rw [← h3.2]; exact BEq.comm
        walk_at "e"
        walk_at "s"
        walk_at "s"; walk_at "e"
        cases l with
        | nil => exact absurd h1 (by simp)
        | cons a r =>
          have en : nameB (a :: r) = (low a && r.all (fun c => low c || dig c)) := by
            rw [nameB, ea, eb, e3, e4]; rfl
          have e9 : (a :: r).length = r.length + 1 := rfl
          walk_at "e"
          refine ⟨of_eq_true (sz_le (by omega)), ?_⟩
          rw [low_or a]
          cases ela : low a with
          | false =>
            walk_at "e"
            refine qf ?_
            rw [en, ela]
            rfl
          | true =>
            walk_at "e"
            refine ⟨of_eq_true (sz_le (by omega)), of_eq_true (sz_le (by omega)), fun p hp => ?_⟩
            refine goW_map (p := p) (N := 1000) (fun d => match d with | .str [c] => some (.bl (low c || dig c)) | _ => none) (fun _ _ _ _ => True.intro) _ [] _ (by rw [List.length_map]; simp only [List.length_nil]; omega) (fun d hd S1 acc K x1 h1 hn k => ?_) Sto.upd_same True.intro fun S2 x2 h2 _ => ?_
            · obtain ⟨c, _, rfl⟩ := List.mem_map.mp hd
              walk_at "e"
              rw [low_or c, dig_or c]
              have hs : acc.length < sizeLine := of_eq_true (sz_lt (by omega))
              have kk := k (S1.upd p (.lst (acc ++ [.bl (low c || dig c)]))) Sxb.put (by rw [Sto.upd_same]; rfl)
              cases e5 : low c with
              | true =>
                rw [e5, Bool.true_or] at kk
                walk_at "e"
                exact ⟨acc, h1, hs, kk⟩
              | false =>
                rw [e5, Bool.false_or] at kk
                walk_at "e"
                exact ⟨acc, h1, hs, kk⟩
            · have e6 : ∀ r : List Nat, (r.map fun c => D.str [c]).filterMap (fun d => match d with | .str [c] => some (D.bl (low c || dig c)) | _ => none) = (r.map fun c => low c || dig c).map D.bl := fun r => by
                induction r with
                | nil => rfl
                | cons c r ih => simp [ih]
              rw [List.nil_append, e6] at h2
              refine bi_all (rd_lst h2) ?_
              have := q S2 (((Sx.new hp).b.trans x2).of_new hp)
              rw [en, ela] at this
              rw [List.all_map]
              exact this
end K49
end Mini
end L2
namespace L2
namespace Mini
namespace K49
open PySem PySem.Spec PyProof.Rows
local macro_rules | `(tactic| walk_at "s") => `(tactic| first | with_reducible refine st_set ?_ | with_reducible refine st_ife ?_ | with_reducible refine st_ret ?_ | with_reducible refine st_ex ?_ | with_reducible refine st_unp ?_ | with_reducible refine st_unpl ?_ | with_reducible refine st_unpa ?_ | with_reducible refine st_aug ?_ | with_reducible refine st_for ?_ | with_reducible refine st_whl ?_ | with_reducible refine st_nil ?_ | with_reducible refine st_setix ?_ | with_reducible refine st_raise ?_ | with_reducible refine st_try ?_ | with_reducible refine st_setat ?_ | with_reducible refine st_augat ?_ | with_reducible refine st_pass ?_ | with_reducible refine st_brk ?_ | with_reducible refine st_cnt ?_)
local macro_rules | `(tactic| walk_at "e") => `(tactic| try simp only [fget, fput, eq_self, Nat.reduceEqDiff, and_true, Int.reduceBEq, wpC, goW, List.map_cons, List.map_nil, deq, deqs, List.any_cons, List.any_nil, slW, cut_1, Int.cast_ofNat_Int, Int.natCast_zero, Int.natCast_one, Int.reduceLE, Int.reduceLT, Int.reduceNeg, Int.reduceAdd, Int.reduceSub, decide_true, decide_false, inW_chr, List.contains_cons, List.contains_nil, Bool.or_true, Bool.true_or, Bool.or_false, Bool.false_or, gd, gds, List.all_cons, List.all_nil, Nat.reduceLT, List.zip_cons_cons, List.zip_nil_left, List.foldl_cons, List.foldl_nil, wpT, wpE, wpEs, wpO, wpI, env0, Env.get, List.map, List.length, List.replicate, List.getElem?_cons_zero, List.getElem?_cons_succ, List.nil_append, List.cons_append, List.append_nil, tru, isiW, cmpW, List.set, Nat.reduceSub, Nat.reduceAdd, Bool.not_true, Bool.not_false, Bool.false_eq_true, if_true, if_false, reduceIte, ixW, biW, bmTy, augW, tgW, newW, wpPs, dmerge, sqW_t, sqW_s, binW_ai, binW_si, binW_at, binW_as, binW_mi, binW_di, binW_mo, atI_0, atI_1, atI_2, ex_some, eqW_str, eqW_int, sz0, sz1, sz2, sz3, sz4, sz5, sz6, sz7, sz8, sz9, sz10, sz11, sz12, sz13, sz14, true_and, Bool.false_xor, Bool.true_xor, lb_cc, lb_nc, lb_cn, lb_nn, Nat.reduceBEq, Bool.and_true, Bool.true_and, Bool.false_and, Bool.and_false, beq_self_eq_true, binW_ms])
local macro_rules | `(tactic| walk_at "r") => `(tactic| ((try walk_at "s"); walk_at "e"; repeat (walk_at "s"; walk_at "e")))
local macro_rules | `(tactic| walk_at "w") => `(tactic| simp only [wpSs, wpS, wpT, wpE, wpEs, wpO, wpI, env0, Env.get, List.map, List.length, List.replicate, List.getElem?_cons_zero, List.getElem?_cons_succ, List.nil_append, List.cons_append, List.append_nil, tru, isiW, cmpW, List.set, Nat.reduceSub, Nat.reduceAdd, Bool.not_true, Bool.not_false, Bool.false_eq_true, if_true, if_false, reduceIte, ixW, biW, bmTy, sqW_t, sqW_s, binW_ai, binW_si, binW_at, binW_as, binW_mi, binW_di, binW_mo, atI_0, atI_1, atI_2, ex_some, eqW_str, eqW_int, sz0, sz1, sz2, sz3, sz4, sz5, sz6, sz7, sz11, true_and, Bool.false_xor, Bool.true_xor, lb_cc, lb_nc, lb_cn, lb_nn, Nat.reduceBEq, Bool.and_true, Bool.true_and, Bool.false_and, Bool.and_false, beq_self_eq_true])
local macro_rules | `(tactic| walk_at "q") => `(tactic| refine eqW_of rfl rfl (Nat.le_of_ble_eq_true rfl) ?_)
local macro_rules | `(tactic| walk_at "g") => `(tactic| (walk_at "r"; repeat (walk_at "q"; walk_at "r")))
theorem w_part : ∀ (size : Nat) {around n : Nat} {t c : Addr} {S : Sto} {Q : QD} {E : QX}, 1 ≤ size → around + size ≤ 400 → size + 2 ≤ n → Tp t c S → (∀ u S', good u = true → clo around u = true → fi u + 1 ≤ size → Tp t c S' → Sd t c S S' → Q (enc u) S') → (lvl prg n).fn 15 [.ref t, .int around, .int size] S Q E := by
  intro size
  induction size using Nat.strongRecOn with
  | ind size ih =>
  intro around n t c S Q E h1 ha hn h q
  obtain ⟨n, rfl⟩ : ∃ j, n = j + 3 := ⟨n - 3, by omega⟩
  refine ⟨rfl, ?_⟩
  unfold ir15
  walk_at "s"; walk_at "e"
  refine w_draw (m := 8) h (by omega) (by omega) fun pick S1 hp h1' x1 => ?_
  -- a leaf
  have leaf : ∀ S1, Tp t c S1 → Sd t c S S1 → wpSs (lvl prg (n + 2)) (.cons (.ife (.and (.cmp .gt (.var 1) (.lit (.int 0))) (.cmp .gt (.call 12 (.cons (.var 0) (.cons (.lit (.int 7)) .nil))) (.lit (.int 0)))) (.cons (.ret (.tup (.cons (.lit (.str [97, 116])) (.cons (.call 12 (.cons (.var 0) (.cons (.var 1) .nil))) .nil)))) .nil) .nil)
      (.cons (.ret (.tup (.cons (.lit (.str [110, 97, 109, 101])) (.cons (.call 13 (.cons (.var 0) (.cons (.lst (.cons (.lit (.str [97])) (.cons (.lit (.str [98])) (.cons (.lit (.str [122, 49])) .nil)))) .nil))) .nil)))) .nil))
      { nx := fun _ _ => False, rt := Q } (fun x _ S' => E x S') [some (.ref t), some (.int around), some (.int size), some (.int pick), none] S1 := by
    intro S1 h1 x1
    have name : ∀ S2, Tp t c S2 → Sd t c S S2 → wpSs (lvl prg (n + 2)) (.cons (.ret (.tup (.cons (.lit (.str [110, 97, 109, 101])) (.cons (.call 13 (.cons (.var 0) (.cons (.lst (.cons (.lit (.str [97])) (.cons (.lit (.str [98])) (.cons (.lit (.str [122, 49])) .nil)))) .nil))) .nil)))) .nil)
        { nx := fun _ _ => False, rt := Q } (fun x _ S' => E x S') [some (.ref t), some (.int around), some (.int size), some (.int pick), none] S2 := by
      intro S2 h2 x2
      walk_at "s"; walk_at "e"
      intro p hp
      have h3 := h2.sx (Sx.new (c := Cell.lst [D.str [97], D.str [98], D.str [122, 49]]) hp)
      obtain ⟨s, es⟩ := h2.at_
      obtain ⟨l, el⟩ := h2.cs
      refine w_pick h3 Sto.upd_same (fun e => by rw [← e, hp] at es; cases es) (fun e => by rw [← e, hp] at el; cases el) (by decide) (by decide) fun d S4 hd h4 x4 => ?_
      walk_at "e"
      have x := (x2.trans (Sx.d (Sx.new (c := Cell.lst [D.str [97], D.str [98], D.str [122, 49]]) hp) t c)).trans x4
      simp only [List.mem_cons, List.not_mem_nil, or_false] at hd
      rcases hd with rfl | rfl | rfl
      · exact q (.nm [97]) S4 rfl rfl (by simp only [fi]; omega) h4 x
      · exact q (.nm [98]) S4 rfl rfl (by simp only [fi]; omega) h4 x
      · exact q (.nm [122, 49]) S4 rfl rfl (by simp only [fi]; omega) h4 x
    walk_at "s"; walk_at "e"
    cases ea : decide ((0 : Int) < (around : Int)) with
    | false =>
      walk_at "e"
      walk_at "s"
      exact name S1 h1 x1
    | true =>
      have ea' := of_decide_eq_true ea
      walk_at "e"
      refine w_draw (m := 7) h1 (by omega) (by omega) fun r S2 hr h2 x2 => ?_
      walk_at "e"
      cases eb : decide ((0 : Int) < (r : Int)) with
      | false =>
        walk_at "e"
        walk_at "s"
        exact name S2 h2 (x1.trans x2)
      | true =>
        walk_at "e"
        walk_at "s"; walk_at "e"
        refine w_draw h2 (by omega) (by omega) fun k S3 hk h3 x3 => ?_
        walk_at "e"
        exact q (.av k) S3 rfl (by simp only [clo, decide_eq_true_eq]; omega) (by simp only [fi]; omega) h3 ((x1.trans x2).trans x3)
  have e1 : ((around : Int) + 1) = ((around + 1 : Nat) : Int) := by omega
  have e2 : ((size : Int) - 1) = ((size - 1 : Nat) : Int) := by omega
  walk_at "s"; walk_at "e"
  cases es : decide ((size : Int) < 2) with
  | true =>
    walk_at "e"
    exact leaf S1 h1' x1
  | false =>
    have es' := of_decide_eq_false es
    walk_at "e"
    cases ep : ((pick : Int) == 0) with
    | true =>
      walk_at "e"
      exact leaf S1 h1' x1
    | false =>
      walk_at "e"
      walk_at "s"
      walk_at "s"; walk_at "e"
      cases e4 : decide ((pick : Int) < 4) with
      | true =>
        walk_at "e"
        walk_at "s"; walk_at "e"
        rw [e1, e2]
        refine ih (size - 1) (by omega) (by omega) (by omega) (by omega) h1' fun u S2 gu cu fu h2 x2 => ?_
        exact q (.fn u) S2 gu (by simpa [clo] using cu) (by simp only [fi]; omega) h2 (x1.trans x2)
      | false =>
        walk_at "e"
        walk_at "s"
        walk_at "s"; walk_at "e"
        rw [e2]
        refine w_draw h1' (by omega) (by omega) fun r S2 hr h2 x2 => ?_
        have e3 : (1 + (r : Int)) = ((1 + r : Nat) : Int) := by omega
        have e5 : ((size : Int) - ((1 + r : Nat) : Int)) = ((size - (1 + r) : Nat) : Int) := by omega
        walk_at "e"
        rw [e3]
        walk_at "s"; walk_at "e"
        refine ih (1 + r) (by omega) (by omega) (by omega) (by omega) h2 fun u S3 gu cu fu h3 x3 => ?_
        rw [e5]
        refine ih (size - (1 + r)) (by omega) (by omega) (by omega) (by omega) h3 fun v S4 gv cv fv h4 x4 => ?_
        walk_at "e"
        exact q (.cl u v) S4 (by simp [good, gu, gv]) (by simp [clo, cu, cv]) (by simp only [fi]; omega) h4 (((x1.trans x2).trans x3).trans x4)
end K49
end Mini
end L2
namespace L2
namespace Mini
namespace K49
open PySem PySem.Spec PyProof.Rows
local macro_rules | `(tactic| walk_at "s") => `(tactic| first | with_reducible refine st_set ?_ | with_reducible refine st_ife ?_ | with_reducible refine st_ret ?_ | with_reducible refine st_ex ?_ | with_reducible refine st_unp ?_ | with_reducible refine st_unpl ?_ | with_reducible refine st_unpa ?_ | with_reducible refine st_aug ?_ | with_reducible refine st_for ?_ | with_reducible refine st_whl ?_ | with_reducible refine st_nil ?_ | with_reducible refine st_setix ?_ | with_reducible refine st_raise ?_ | with_reducible refine st_try ?_ | with_reducible refine st_setat ?_ | with_reducible refine st_augat ?_ | with_reducible refine st_pass ?_ | with_reducible refine st_brk ?_ | with_reducible refine st_cnt ?_)
local macro_rules | `(tactic| walk_at "e") => `(tactic| try simp only [fget, fput, eq_self, Nat.reduceEqDiff, and_true, Int.reduceBEq, wpC, goW, List.map_cons, List.map_nil, deq, deqs, List.any_cons, List.any_nil, slW, cut_1, Int.cast_ofNat_Int, Int.natCast_zero, Int.natCast_one, Int.reduceLE, Int.reduceLT, Int.reduceNeg, Int.reduceAdd, Int.reduceSub, decide_true, decide_false, inW_chr, List.contains_cons, List.contains_nil, Bool.or_true, Bool.true_or, Bool.or_false, Bool.false_or, gd, gds, List.all_cons, List.all_nil, Nat.reduceLT, List.zip_cons_cons, List.zip_nil_left, List.foldl_cons, List.foldl_nil, wpT, wpE, wpEs, wpO, wpI, env0, Env.get, List.map, List.length, List.replicate, List.getElem?_cons_zero, List.getElem?_cons_succ, List.nil_append, List.cons_append, List.append_nil, tru, isiW, cmpW, List.set, Nat.reduceSub, Nat.reduceAdd, Bool.not_true, Bool.not_false, Bool.false_eq_true, if_true, if_false, reduceIte, ixW, biW, bmTy, augW, tgW, newW, wpPs, dmerge, sqW_t, sqW_s, binW_ai, binW_si, binW_at, binW_as, binW_mi, binW_di, binW_mo, atI_0, atI_1, atI_2, ex_some, eqW_str, eqW_int, sz0, sz1, sz2, sz3, sz4, sz5, sz6, sz7, sz8, sz9, sz10, sz11, sz12, sz13, sz14, true_and, Bool.false_xor, Bool.true_xor, lb_cc, lb_nc, lb_cn, lb_nn, Nat.reduceBEq, Bool.and_true, Bool.true_and, Bool.false_and, Bool.and_false, beq_self_eq_true, binW_ms])
local macro_rules | `(tactic| walk_at "r") => `(tactic| ((try walk_at "s"); walk_at "e"; repeat (walk_at "s"; walk_at "e")))
local macro_rules | `(tactic| walk_at "w") => `(tactic| simp only [wpSs, wpS, wpT, wpE, wpEs, wpO, wpI, env0, Env.get, List.map, List.length, List.replicate, List.getElem?_cons_zero, List.getElem?_cons_succ, List.nil_append, List.cons_append, List.append_nil, tru, isiW, cmpW, List.set, Nat.reduceSub, Nat.reduceAdd, Bool.not_true, Bool.not_false, Bool.false_eq_true, if_true, if_false, reduceIte, ixW, biW, bmTy, sqW_t, sqW_s, binW_ai, binW_si, binW_at, binW_as, binW_mi, binW_di, binW_mo, atI_0, atI_1, atI_2, ex_some, eqW_str, eqW_int, sz0, sz1, sz2, sz3, sz4, sz5, sz6, sz7, sz11, true_and, Bool.false_xor, Bool.true_xor, lb_cc, lb_nc, lb_cn, lb_nn, Nat.reduceBEq, Bool.and_true, Bool.true_and, Bool.false_and, Bool.and_false, beq_self_eq_true])
local macro_rules | `(tactic| walk_at "q") => `(tactic| refine eqW_of rfl rfl (Nat.le_of_ble_eq_true rfl) ?_)
local macro_rules | `(tactic| walk_at "g") => `(tactic| (walk_at "r"; repeat (walk_at "q"; walk_at "r")))
/-! ### _law_size -/
def szs (rows : List Tm) : Nat := (rows.map sz).sum
theorem szs_snoc (L : List Tm) (r : Tm) : szs (L ++ [r]) = szs L + sz r := by simp [szs]
theorem len_le_szs : ∀ L : List Tm, L.length ≤ szs L
  | [] => Nat.le_refl _
  | r :: L => by
    have h1 := sz_pos r
    have h2 := len_le_szs L
    simp only [szs, List.map_cons, List.sum_cons, List.length_cons] at *
    omega
end K49
end Mini
end L2
namespace L2
namespace Mini
namespace K49
open PySem PySem.Spec PyProof.Rows
local macro_rules | `(tactic| walk_at "s") => `(tactic| first | with_reducible refine st_set ?_ | with_reducible refine st_ife ?_ | with_reducible refine st_ret ?_ | with_reducible refine st_ex ?_ | with_reducible refine st_unp ?_ | with_reducible refine st_unpl ?_ | with_reducible refine st_unpa ?_ | with_reducible refine st_aug ?_ | with_reducible refine st_for ?_ | with_reducible refine st_whl ?_ | with_reducible refine st_nil ?_ | with_reducible refine st_setix ?_ | with_reducible refine st_raise ?_ | with_reducible refine st_try ?_ | with_reducible refine st_setat ?_ | with_reducible refine st_augat ?_ | with_reducible refine st_pass ?_ | with_reducible refine st_brk ?_ | with_reducible refine st_cnt ?_)
local macro_rules | `(tactic| walk_at "e") => `(tactic| try simp only [fget, fput, eq_self, Nat.reduceEqDiff, and_true, Int.reduceBEq, wpC, goW, List.map_cons, List.map_nil, deq, deqs, List.any_cons, List.any_nil, slW, cut_1, Int.cast_ofNat_Int, Int.natCast_zero, Int.natCast_one, Int.reduceLE, Int.reduceLT, Int.reduceNeg, Int.reduceAdd, Int.reduceSub, decide_true, decide_false, inW_chr, List.contains_cons, List.contains_nil, Bool.or_true, Bool.true_or, Bool.or_false, Bool.false_or, gd, gds, List.all_cons, List.all_nil, Nat.reduceLT, List.zip_cons_cons, List.zip_nil_left, List.foldl_cons, List.foldl_nil, wpT, wpE, wpEs, wpO, wpI, env0, Env.get, List.map, List.length, List.replicate, List.getElem?_cons_zero, List.getElem?_cons_succ, List.nil_append, List.cons_append, List.append_nil, tru, isiW, cmpW, List.set, Nat.reduceSub, Nat.reduceAdd, Bool.not_true, Bool.not_false, Bool.false_eq_true, if_true, if_false, reduceIte, ixW, biW, bmTy, augW, tgW, newW, wpPs, dmerge, sqW_t, sqW_s, binW_ai, binW_si, binW_at, binW_as, binW_mi, binW_di, binW_mo, atI_0, atI_1, atI_2, ex_some, eqW_str, eqW_int, sz0, sz1, sz2, sz3, sz4, sz5, sz6, sz7, sz8, sz9, sz10, sz11, sz12, sz13, sz14, true_and, Bool.false_xor, Bool.true_xor, lb_cc, lb_nc, lb_cn, lb_nn, Nat.reduceBEq, Bool.and_true, Bool.true_and, Bool.false_and, Bool.and_false, beq_self_eq_true, binW_ms])
local macro_rules | `(tactic| walk_at "r") => `(tactic| ((try walk_at "s"); walk_at "e"; repeat (walk_at "s"; walk_at "e")))
local macro_rules | `(tactic| walk_at "w") => `(tactic| simp only [wpSs, wpS, wpT, wpE, wpEs, wpO, wpI, env0, Env.get, List.map, List.length, List.replicate, List.getElem?_cons_zero, List.getElem?_cons_succ, List.nil_append, List.cons_append, List.append_nil, tru, isiW, cmpW, List.set, Nat.reduceSub, Nat.reduceAdd, Bool.not_true, Bool.not_false, Bool.false_eq_true, if_true, if_false, reduceIte, ixW, biW, bmTy, sqW_t, sqW_s, binW_ai, binW_si, binW_at, binW_as, binW_mi, binW_di, binW_mo, atI_0, atI_1, atI_2, ex_some, eqW_str, eqW_int, sz0, sz1, sz2, sz3, sz4, sz5, sz6, sz7, sz11, true_and, Bool.false_xor, Bool.true_xor, lb_cc, lb_nc, lb_cn, lb_nn, Nat.reduceBEq, Bool.and_true, Bool.true_and, Bool.false_and, Bool.and_false, beq_self_eq_true])
local macro_rules | `(tactic| walk_at "q") => `(tactic| refine eqW_of rfl rfl (Nat.le_of_ble_eq_true rfl) ?_)
local macro_rules | `(tactic| walk_at "g") => `(tactic| (walk_at "r"; repeat (walk_at "q"; walk_at "r")))
/-! ### made, _law_size -/
abbrev rowD (r : Tm × Nat) : D := .tup [enc r.1, .int (r.2 : Int)]
def ssz (rows : List (Tm × Nat)) : Nat := (rows.map fun r => sz r.1).sum
theorem ssz_snoc (L : List (Tm × Nat)) (r : Tm × Nat) : ssz (L ++ [r]) = ssz L + sz r.1 := by simp [ssz]
theorem gds_rows : ∀ rows : List (Tm × Nat), (∀ r ∈ rows, good r.1 = true) → gds (rows.map rowD) = true
  | [], _ => rfl
  | r :: rows, h => by
    have h1 := enc_gd r.1 (h r List.mem_cons_self)
    have h2 := gds_rows rows fun x hx => h x (List.mem_cons_of_mem _ hx)
    simp [gds, gd, h1, h2]
theorem len_le_ssz : ∀ L : List (Tm × Nat), L.length ≤ ssz L
  | [] => Nat.le_refl _
  | r :: L => by
    have h1 := sz_pos r.1
    have h2 := len_le_ssz L
    simp only [ssz, List.map_cons, List.sum_cons, List.length_cons] at *
    omega
theorem isEmpty_snoc {α : Type} (L : List α) (b : α) : (L ++ [b]).isEmpty = false := by cases L <;> rfl
end K49
end Mini
end L2
namespace L2
namespace Mini
namespace K49
open PySem PySem.Spec PyProof.Rows
local macro_rules | `(tactic| walk_at "s") => `(tactic| first | with_reducible refine st_set ?_ | with_reducible refine st_ife ?_ | with_reducible refine st_ret ?_ | with_reducible refine st_ex ?_ | with_reducible refine st_unp ?_ | with_reducible refine st_unpl ?_ | with_reducible refine st_unpa ?_ | with_reducible refine st_aug ?_ | with_reducible refine st_for ?_ | with_reducible refine st_whl ?_ | with_reducible refine st_nil ?_ | with_reducible refine st_setix ?_ | with_reducible refine st_raise ?_ | with_reducible refine st_try ?_ | with_reducible refine st_setat ?_ | with_reducible refine st_augat ?_ | with_reducible refine st_pass ?_ | with_reducible refine st_brk ?_ | with_reducible refine st_cnt ?_)
local macro_rules | `(tactic| walk_at "e") => `(tactic| try simp only [fget, fput, eq_self, Nat.reduceEqDiff, and_true, Int.reduceBEq, wpC, goW, List.map_cons, List.map_nil, deq, deqs, List.any_cons, List.any_nil, slW, cut_1, Int.cast_ofNat_Int, Int.natCast_zero, Int.natCast_one, Int.reduceLE, Int.reduceLT, Int.reduceNeg, Int.reduceAdd, Int.reduceSub, decide_true, decide_false, inW_chr, List.contains_cons, List.contains_nil, Bool.or_true, Bool.true_or, Bool.or_false, Bool.false_or, gd, gds, List.all_cons, List.all_nil, Nat.reduceLT, List.zip_cons_cons, List.zip_nil_left, List.foldl_cons, List.foldl_nil, wpT, wpE, wpEs, wpO, wpI, env0, Env.get, List.map, List.length, List.replicate, List.getElem?_cons_zero, List.getElem?_cons_succ, List.nil_append, List.cons_append, List.append_nil, tru, isiW, cmpW, List.set, Nat.reduceSub, Nat.reduceAdd, Bool.not_true, Bool.not_false, Bool.false_eq_true, if_true, if_false, reduceIte, ixW, biW, bmTy, augW, tgW, newW, wpPs, dmerge, sqW_t, sqW_s, binW_ai, binW_si, binW_at, binW_as, binW_mi, binW_di, binW_mo, atI_0, atI_1, atI_2, ex_some, eqW_str, eqW_int, sz0, sz1, sz2, sz3, sz4, sz5, sz6, sz7, sz8, sz9, sz10, sz11, sz12, sz13, sz14, true_and, Bool.false_xor, Bool.true_xor, lb_cc, lb_nc, lb_cn, lb_nn, Nat.reduceBEq, Bool.and_true, Bool.true_and, Bool.false_and, Bool.and_false, beq_self_eq_true, binW_ms])
local macro_rules | `(tactic| walk_at "r") => `(tactic| ((try walk_at "s"); walk_at "e"; repeat (walk_at "s"; walk_at "e")))
local macro_rules | `(tactic| walk_at "w") => `(tactic| simp only [wpSs, wpS, wpT, wpE, wpEs, wpO, wpI, env0, Env.get, List.map, List.length, List.replicate, List.getElem?_cons_zero, List.getElem?_cons_succ, List.nil_append, List.cons_append, List.append_nil, tru, isiW, cmpW, List.set, Nat.reduceSub, Nat.reduceAdd, Bool.not_true, Bool.not_false, Bool.false_eq_true, if_true, if_false, reduceIte, ixW, biW, bmTy, sqW_t, sqW_s, binW_ai, binW_si, binW_at, binW_as, binW_mi, binW_di, binW_mo, atI_0, atI_1, atI_2, ex_some, eqW_str, eqW_int, sz0, sz1, sz2, sz3, sz4, sz5, sz6, sz7, sz11, true_and, Bool.false_xor, Bool.true_xor, lb_cc, lb_nc, lb_cn, lb_nn, Nat.reduceBEq, Bool.and_true, Bool.true_and, Bool.false_and, Bool.and_false, beq_self_eq_true])
local macro_rules | `(tactic| walk_at "q") => `(tactic| refine eqW_of rfl rfl (Nat.le_of_ble_eq_true rfl) ?_)
local macro_rules | `(tactic| walk_at "g") => `(tactic| (walk_at "r"; repeat (walk_at "q"; walk_at "r")))
/-! ### measured -/
theorem w_measured {u : Tm} {n : Nat} {S : Sto} {Q : QD} {E : QX} (hg : good u = true) (hb : sz u ≤ 1000000) (q : ∀ S', Sx S S' → Q (.tup [.int (sz u : Int), .int (dp u : Int)]) S') : (lvl prg (n + 1)).fn 2 [enc u] S Q E := by
  refine ⟨rfl, ?_⟩
  unfold ir2
  walk_at "s"; walk_at "e"
  intro p hp
  walk_at "s"; walk_at "e"
  walk_at "s"; walk_at "e"
  walk_at "s"
  refine ⟨fun m σ S1 => ∃ (rows : List (Tm × Nat)) (many most : Nat) (o3 o4 : Option D), σ = [some (enc u), some (.ref p), some (.int (many : Int)), some (.int (most : Int)), o3, o4] ∧ S1 p = some (.lst (rows.map rowD)) ∧ Sxb p S S1 ∧ m = ssz rows ∧ many + ssz rows = sz u ∧ (∀ r ∈ rows, good r.1 = true ∧ r.2 + dp r.1 ≤ dp u + 1) ∧ ((∃ r ∈ rows, r.2 + dp r.1 = dp u + 1) ∨ most = dp u) ∧ most ≤ dp u,
    ⟨sz u, [(u, 1)], 0, 0, none, none, rfl, Sto.upd_same, Sxb.put, by simp [ssz], by simp [ssz], fun r hr => (by rw [List.mem_singleton.mp hr]; exact ⟨hg, by dsimp only; omega⟩), .inl ⟨_, List.mem_cons_self, by dsimp only; omega⟩, by omega⟩, ?_⟩
  rintro m σ S1 ⟨rows, many, most, o3, o4, rfl, h1, x1, rfl, hm, hr, hd, hM⟩
  walk_at "e"
  intro l hl
  have ne : p ≠ l := new_ne h1 hl
  have h1' : (S1.upd l (.lst [])) p = some (.lst (rows.map rowD)) := by rw [Sto.upd_ne ne]; exact h1
  have x1' : Sxb p S (S1.upd l (.lst [])) := x1.trans (Sx.new hl).b
  refine eqW_nil (rd_lst h1') (gds_rows rows fun r h => (hr r h).1) rd_upd ?_
  rcases snoc_cases rows with rfl | ⟨L, r, rfl⟩
  · simp only [List.map_nil, List.isEmpty_nil]
    walk_at "r"
    simp only [ssz, List.map_nil, List.sum_nil] at hm
    have := q _ (x1'.of_new hp)
    rcases hd with ⟨r, h, _⟩ | h
    · cases h
    · rw [show many = sz u by omega, h]
      exact this
  · rw [List.map_append, List.map_cons, List.map_nil] at h1' ⊢
    rw [isEmpty_snoc]
    rw [ssz_snoc] at hm
    have hrr := hr r (by simp)
    have hrL : ∀ x ∈ L, good x.1 = true ∧ x.2 + dp x.1 ≤ dp u + 1 := fun x hx => hr x (by simp [hx])
    have hz := sz_pos r.1
    have hdd := dp_pos r.1
    walk_at "e"
    walk_at "s"; walk_at "e"
    refine ⟨⟨_, h1'⟩, bm_pop h1' ?_⟩
    walk_at "r"
    obtain ⟨S2, hS2⟩ : ∃ S2, S2 = (S1.upd l (.lst [])).upd p (.lst (L.map rowD)) := ⟨_, rfl⟩
    have h2 : S2 p = some (.lst (L.map rowD)) := by rw [hS2, Sto.upd_same]
    have x2 : Sxb p S S2 := by rw [hS2]; exact x1'.trans Sxb.put
    rw [← hS2]
    have em : ((many : Int) + 1) = ((many + 1 : Nat) : Int) := by omega
    rw [em]
    obtain ⟨t, d⟩ := r
    dsimp only at hrr hz hdd hm ⊢
    rw [show (if (d : Int) > (most : Int) then (d : Int) else (most : Int)) = ((max most d : Nat) : Int) by split <;> omega]
    have hM2 : max most d ≤ dp u := by omega
    have keep : ∀ {rs : List (Tm × Nat)}, (∀ r ∈ L, r ∈ rs) → ((d + dp t = dp u + 1) → (∃ r ∈ rs, r.2 + dp r.1 = dp u + 1) ∨ max most d = dp u) → ((∃ r ∈ rs, r.2 + dp r.1 = dp u + 1) ∨ max most d = dp u) := fun {rs} hs h => by
      rcases hd with ⟨r, hr, er⟩ | h'
      · rcases List.mem_append.mp hr with hr | hr
        · exact .inl ⟨r, hs r hr, er⟩
        · rw [List.mem_singleton.mp hr] at er
          exact h er
      · exact .inr (by omega)
    have szl := len_le_ssz L
    cases t with
    | av j =>
      simp only [enc]
      walk_at "r"
      exact ⟨ssz L, by rw [ssz_snoc]; simp only [sz]; omega, L, many + 1, max most d, _, _, rfl, h2, x2, rfl, by simp only [sz] at hm; omega, hrL, keep (fun _ h => h) (fun h => .inr (by simp only [dp] at h; omega)), hM2⟩
    | nm w =>
      simp only [enc]
      walk_at "r"
      exact ⟨ssz L, by rw [ssz_snoc]; simp only [sz]; omega, L, many + 1, max most d, _, _, rfl, h2, x2, rfl, by simp only [sz] at hm; omega, hrL, keep (fun _ h => h) (fun h => .inr (by simp only [dp] at h; omega)), hM2⟩
    | fn t =>
      simp only [enc]
      simp only [sz] at hm
      walk_at "r"
      have ed : ((d : Int) + 1) = ((d + 1 : Nat) : Int) := by omega
      rw [ed]
      refine ⟨⟨_, h2⟩, bm_app h2 (of_eq_true (sz_lt (by rw [List.length_map]; omega))) ?_⟩
      walk_at "s"
      simp only [good, dp] at hrr
      refine ⟨ssz (L ++ [(t, d + 1)]), by rw [ssz_snoc, ssz_snoc]; simp only [sz]; omega, L ++ [(t, d + 1)], many + 1, max most d, _, _, rfl, by rw [Sto.upd_same]; simp, x2.trans Sxb.put, rfl, by rw [ssz_snoc]; dsimp only; omega, fun x hx => ?_, keep (fun _ h => List.mem_append_left _ h) fun h => .inl ⟨(t, d + 1), by simp, by simp only [dp] at h; dsimp only; omega⟩, hM2⟩
      rcases List.mem_append.mp hx with hx | hx
      · exact hrL x hx
      · rw [List.mem_singleton.mp hx]; exact ⟨hrr.1, by dsimp only; omega⟩
    | cl t v =>
      simp only [enc]
      simp only [sz] at hm
      walk_at "r"
      have ed : ((d : Int) + 1) = ((d + 1 : Nat) : Int) := by omega
      rw [ed]
      have zt := sz_pos t
      have zv := sz_pos v
      refine ⟨⟨_, h2⟩, bm_app h2 (of_eq_true (sz_lt (by rw [List.length_map]; omega))) ?_⟩
      walk_at "r"
      rw [ed]
      refine ⟨⟨_, Sto.upd_same⟩, bm_app Sto.upd_same (of_eq_true (sz_lt (by rw [List.length_append, List.length_map]; simp only [List.length_cons, List.length_nil]; omega))) ?_⟩
      walk_at "s"
      simp only [good, dp, Bool.and_eq_true] at hrr
      refine ⟨ssz (L ++ [(t, d + 1)] ++ [(v, d + 1)]), by rw [ssz_snoc, ssz_snoc, ssz_snoc]; simp only [sz]; omega, L ++ [(t, d + 1)] ++ [(v, d + 1)], many + 1, max most d, _, _, rfl, by rw [Sto.upd_same]; simp, (x2.trans Sxb.put).trans Sxb.put, rfl, by rw [ssz_snoc, ssz_snoc]; dsimp only; omega, fun x hx => ?_, keep (fun _ h => by simp [h]) fun h => .inl ?_, hM2⟩
      · simp only [List.mem_append, List.mem_singleton] at hx
        rcases hx with (hx | rfl) | rfl
        · exact hrL x hx
        · exact ⟨hrr.1.1, by dsimp only; omega⟩
        · exact ⟨hrr.1.2, by dsimp only; omega⟩
      · simp only [dp] at h
        by_cases hx : dp v ≤ dp t
        · exact ⟨(t, d + 1), by simp, by dsimp only; omega⟩
        · exact ⟨(v, d + 1), by simp, by dsimp only; omega⟩
end K49
end Mini
end L2
namespace L2
namespace Mini
namespace K49
open PySem PySem.Spec PyProof.Rows
local macro_rules | `(tactic| walk_at "s") => `(tactic| first | with_reducible refine st_set ?_ | with_reducible refine st_ife ?_ | with_reducible refine st_ret ?_ | with_reducible refine st_ex ?_ | with_reducible refine st_unp ?_ | with_reducible refine st_unpl ?_ | with_reducible refine st_unpa ?_ | with_reducible refine st_aug ?_ | with_reducible refine st_for ?_ | with_reducible refine st_whl ?_ | with_reducible refine st_nil ?_ | with_reducible refine st_setix ?_ | with_reducible refine st_raise ?_ | with_reducible refine st_try ?_ | with_reducible refine st_setat ?_ | with_reducible refine st_augat ?_ | with_reducible refine st_pass ?_ | with_reducible refine st_brk ?_ | with_reducible refine st_cnt ?_)
local macro_rules | `(tactic| walk_at "e") => `(tactic| try simp only [fget, fput, eq_self, Nat.reduceEqDiff, and_true, Int.reduceBEq, wpC, goW, List.map_cons, List.map_nil, deq, deqs, List.any_cons, List.any_nil, slW, cut_1, Int.cast_ofNat_Int, Int.natCast_zero, Int.natCast_one, Int.reduceLE, Int.reduceLT, Int.reduceNeg, Int.reduceAdd, Int.reduceSub, decide_true, decide_false, inW_chr, List.contains_cons, List.contains_nil, Bool.or_true, Bool.true_or, Bool.or_false, Bool.false_or, gd, gds, List.all_cons, List.all_nil, Nat.reduceLT, List.zip_cons_cons, List.zip_nil_left, List.foldl_cons, List.foldl_nil, wpT, wpE, wpEs, wpO, wpI, env0, Env.get, List.map, List.length, List.replicate, List.getElem?_cons_zero, List.getElem?_cons_succ, List.nil_append, List.cons_append, List.append_nil, tru, isiW, cmpW, List.set, Nat.reduceSub, Nat.reduceAdd, Bool.not_true, Bool.not_false, Bool.false_eq_true, if_true, if_false, reduceIte, ixW, biW, bmTy, augW, tgW, newW, wpPs, dmerge, sqW_t, sqW_s, binW_ai, binW_si, binW_at, binW_as, binW_mi, binW_di, binW_mo, atI_0, atI_1, atI_2, ex_some, eqW_str, eqW_int, sz0, sz1, sz2, sz3, sz4, sz5, sz6, sz7, sz8, sz9, sz10, sz11, sz12, sz13, sz14, true_and, Bool.false_xor, Bool.true_xor, lb_cc, lb_nc, lb_cn, lb_nn, Nat.reduceBEq, Bool.and_true, Bool.true_and, Bool.false_and, Bool.and_false, beq_self_eq_true, binW_ms])
local macro_rules | `(tactic| walk_at "r") => `(tactic| ((try walk_at "s"); walk_at "e"; repeat (walk_at "s"; walk_at "e")))
local macro_rules | `(tactic| walk_at "w") => `(tactic| simp only [wpSs, wpS, wpT, wpE, wpEs, wpO, wpI, env0, Env.get, List.map, List.length, List.replicate, List.getElem?_cons_zero, List.getElem?_cons_succ, List.nil_append, List.cons_append, List.append_nil, tru, isiW, cmpW, List.set, Nat.reduceSub, Nat.reduceAdd, Bool.not_true, Bool.not_false, Bool.false_eq_true, if_true, if_false, reduceIte, ixW, biW, bmTy, sqW_t, sqW_s, binW_ai, binW_si, binW_at, binW_as, binW_mi, binW_di, binW_mo, atI_0, atI_1, atI_2, ex_some, eqW_str, eqW_int, sz0, sz1, sz2, sz3, sz4, sz5, sz6, sz7, sz11, true_and, Bool.false_xor, Bool.true_xor, lb_cc, lb_nc, lb_cn, lb_nn, Nat.reduceBEq, Bool.and_true, Bool.true_and, Bool.false_and, Bool.and_false, beq_self_eq_true])
local macro_rules | `(tactic| walk_at "q") => `(tactic| refine eqW_of rfl rfl (Nat.le_of_ble_eq_true rfl) ?_)
local macro_rules | `(tactic| walk_at "g") => `(tactic| (walk_at "r"; repeat (walk_at "q"; walk_at "r")))
/-! ### help that other laws have with Terms -/
theorem sxm_put2 {p l : Addr} {S : Sto} {c : Cell} : Sxm p l S (S.upd l c) := fun x d _ h2 hd => by rw [Sto.upd_ne h2]; exact hd
abbrev nI (l : List Nat) : List D := l.map fun (n : Nat) => D.int (n : Int)
def whBody : Stms → Stms
  | .cons (.whl _ b) _ => b
  | .cons _ r => whBody r
  | .nil => .nil
def dropS : Nat → Stms → Stms
  | 0, s => s
  | k + 1, .cons _ r => dropS k r
  | _ + 1, .nil => .nil
theorem nI_app (a b : List Nat) : nI (a ++ b) = nI a ++ nI b := List.map_append
theorem atI_last {α : Type} {l : List α} {x : α} : atI (l ++ [x]) (-1) = some x := by
  unfold atI ixN
  rw [if_neg (by omega), if_pos (by simp only [List.length_append, List.length_cons, List.length_nil]; omega)]
  have : (-1 + ((l ++ [x]).length : Int)).toNat = l.length := by simp only [List.length_append, List.length_cons, List.length_nil]; omega
  show (l ++ [x])[(-1 + ((l ++ [x]).length : Int)).toNat]? = _
  rw [this]
  simp
theorem gds_nI (l : List Nat) : gds (nI l) = true := gds_nts l
theorem liveL_b {a p : Addr} {ds : List D} (ne : a ≠ p) : ∀ S S', Sxb p S S' → liveL a ds S → liveL a ds S' := fun S S' x h => by
  unfold liveL rd at *
  split at h
  · rename_i d q; rw [x a _ ne q]; exact h
  · rename_i d q; rw [x a _ ne q]; exact h
  · cases h
theorem live_of {a : Addr} {ds : List D} {S : Sto} (h : S a = some (.lst ds)) : liveL a ds S := rd_lst h
theorem kget_map {α : Type} (g : Nat → α) (i : Nat) : ∀ l : List Nat, kget (l.map fun j => (j, g j)) i = if i ∈ l then some (g i) else none
  | [] => rfl
  | j :: l => by
    have ih := kget_map g i l
    unfold kget at ih ⊢
    rw [List.map_cons, List.find?_cons]
    by_cases e : j = i
    · subst e; simp
    · have e2 : ¬ i = j := fun q => e q.symm
      simp only [e, decide_false, List.mem_cons, e2, false_or]
      exact ih
end K49
end Mini
end L2
namespace L2
namespace Mini
namespace K49
open PySem PySem.Spec PyProof.Rows
local macro_rules | `(tactic| walk_at "s") => `(tactic| first | with_reducible refine st_set ?_ | with_reducible refine st_ife ?_ | with_reducible refine st_ret ?_ | with_reducible refine st_ex ?_ | with_reducible refine st_unp ?_ | with_reducible refine st_unpl ?_ | with_reducible refine st_unpa ?_ | with_reducible refine st_aug ?_ | with_reducible refine st_for ?_ | with_reducible refine st_whl ?_ | with_reducible refine st_nil ?_ | with_reducible refine st_setix ?_ | with_reducible refine st_raise ?_ | with_reducible refine st_try ?_ | with_reducible refine st_setat ?_ | with_reducible refine st_augat ?_ | with_reducible refine st_pass ?_ | with_reducible refine st_brk ?_ | with_reducible refine st_cnt ?_)
local macro_rules | `(tactic| walk_at "e") => `(tactic| try simp only [fget, fput, eq_self, Nat.reduceEqDiff, and_true, Int.reduceBEq, wpC, goW, List.map_cons, List.map_nil, deq, deqs, List.any_cons, List.any_nil, slW, cut_1, Int.cast_ofNat_Int, Int.natCast_zero, Int.natCast_one, Int.reduceLE, Int.reduceLT, Int.reduceNeg, Int.reduceAdd, Int.reduceSub, decide_true, decide_false, inW_chr, List.contains_cons, List.contains_nil, Bool.or_true, Bool.true_or, Bool.or_false, Bool.false_or, gd, gds, List.all_cons, List.all_nil, Nat.reduceLT, List.zip_cons_cons, List.zip_nil_left, List.foldl_cons, List.foldl_nil, wpT, wpE, wpEs, wpO, wpI, env0, Env.get, List.map, List.length, List.replicate, List.getElem?_cons_zero, List.getElem?_cons_succ, List.nil_append, List.cons_append, List.append_nil, tru, isiW, cmpW, List.set, Nat.reduceSub, Nat.reduceAdd, Bool.not_true, Bool.not_false, Bool.false_eq_true, if_true, if_false, reduceIte, ixW, biW, bmTy, augW, tgW, newW, wpPs, dmerge, sqW_t, sqW_s, binW_ai, binW_si, binW_at, binW_as, binW_mi, binW_di, binW_mo, atI_0, atI_1, atI_2, ex_some, eqW_str, eqW_int, sz0, sz1, sz2, sz3, sz4, sz5, sz6, sz7, sz8, sz9, sz10, sz11, sz12, sz13, sz14, true_and, Bool.false_xor, Bool.true_xor, lb_cc, lb_nc, lb_cn, lb_nn, Nat.reduceBEq, Bool.and_true, Bool.true_and, Bool.false_and, Bool.and_false, beq_self_eq_true, binW_ms])
local macro_rules | `(tactic| walk_at "r") => `(tactic| ((try walk_at "s"); walk_at "e"; repeat (walk_at "s"; walk_at "e")))
local macro_rules | `(tactic| walk_at "w") => `(tactic| simp only [wpSs, wpS, wpT, wpE, wpEs, wpO, wpI, env0, Env.get, List.map, List.length, List.replicate, List.getElem?_cons_zero, List.getElem?_cons_succ, List.nil_append, List.cons_append, List.append_nil, tru, isiW, cmpW, List.set, Nat.reduceSub, Nat.reduceAdd, Bool.not_true, Bool.not_false, Bool.false_eq_true, if_true, if_false, reduceIte, ixW, biW, bmTy, sqW_t, sqW_s, binW_ai, binW_si, binW_at, binW_as, binW_mi, binW_di, binW_mo, atI_0, atI_1, atI_2, ex_some, eqW_str, eqW_int, sz0, sz1, sz2, sz3, sz4, sz5, sz6, sz7, sz11, true_and, Bool.false_xor, Bool.true_xor, lb_cc, lb_nc, lb_cn, lb_nn, Nat.reduceBEq, Bool.and_true, Bool.true_and, Bool.false_and, Bool.and_false, beq_self_eq_true])
local macro_rules | `(tactic| walk_at "q") => `(tactic| refine eqW_of rfl rfl (Nat.le_of_ble_eq_true rfl) ?_)
local macro_rules | `(tactic| walk_at "g") => `(tactic| (walk_at "r"; repeat (walk_at "q"; walk_at "r")))
/-! ### codes -/
abbrev sGt : D := .str [103, 101, 116]
abbrev sCs : D := .str [99, 108, 111, 115, 101]
def code : Tm → List D
  | .av n => [.tup [sGt, .int n]]
  | .nm l => [.tup [sNm, .str l]]
  | .fn t => [.tup [sCs, .tup (code t)]]
  | .cl t u => code t ++ code u ++ [.tup [sCl]]
theorem code_len (t : Tm) : (code t).length ≤ sz t := by
  induction t with
  | av n => simp [code, sz]
  | nm n => simp [code, sz]
  | fn t ih => simp [code, sz]
  | cl t u ih ih2 => simp only [code, sz, List.length_append, List.length_cons, List.length_nil]; omega
theorem f14 {t : Tm} : ∀ {n : Nat} {S : Sto} {Q : QD} {E : QX}, dp t ≤ n → sz t ≤ 1000 → Q (.tup (code t)) S → (lvl prg (n + 1)).fn 16 [enc t] S Q E := by
  induction t with
  | av m =>
    intro n S Q E hn hz q
    refine ⟨rfl, ?_⟩
    unfold ir16
    simp only [enc]
    walk_at "w"
    exact q
  | nm m =>
    intro n S Q E hn hz q
    refine ⟨rfl, ?_⟩
    unfold ir16
    simp only [enc]
    walk_at "w"
    exact q
  | fn t ih =>
    intro n S Q E hn hz q
    obtain ⟨n, rfl⟩ : ∃ k, n = k + 1 := ⟨n - 1, by simp only [dp] at hn; omega⟩
    refine ⟨rfl, ?_⟩
    unfold ir16
    simp only [enc]
    walk_at "w"
    refine ih (by simp only [dp] at hn; omega) (by simp only [sz] at hz; omega) ?_
    exact q
  | cl t u ih ih2 =>
    intro n S Q E hn hz q
    obtain ⟨n, rfl⟩ : ∃ k, n = k + 1 := ⟨n - 1, by simp only [dp] at hn; omega⟩
    refine ⟨rfl, ?_⟩
    unfold ir16
    simp only [enc]
    walk_at "w"
    have h1 := code_len t
    have h2 := code_len u
    simp only [sz] at hz
    simp only [dp] at hn
    refine ih (by omega) (by omega) (ih2 (by omega) (by omega) ?_)
    refine ⟨of_eq_true (sz_le (by omega)), ?_⟩
    refine ⟨of_eq_true (sz_le (by simp only [List.length_append, List.length_cons, List.length_nil]; omega)), ?_⟩
    exact q
/-! ### measured -/
theorem enc_tup (t : Tm) : ∃ a ds, enc t = .tup (a :: ds) := by cases t <;> exact ⟨_, _, rfl⟩
inductive Cd where | nil | get (n : Nat) (r : Cd) | nm (l : List Nat) (r : Cd) | close (b r : Cd) | call (r : Cd)
def encC : Cd → List D
  | .nil => []
  | .get n r => .tup [sGt, .int n] :: encC r
  | .nm l r => .tup [sNm, .str l] :: encC r
  | .close b r => .tup [sCs, .tup (encC b)] :: encC r
  | .call r => .tup [sCl] :: encC r
/-- all orders -/
def tot : Cd → Nat
  | .nil => 0
  | .get _ r => tot r + 1
  | .nm _ r => tot r + 1
  | .close b r => tot b + tot r + 1
  | .call r => tot r + 1
/-- those that build -/
def wid : Cd → Nat
  | .nil => 0
  | .get _ r => wid r
  | .nm _ r => wid r
  | .close b r => wid b + wid r + 1
  | .call r => wid r + 1
def nest : Cd → Nat
  | .nil => 0
  | .get _ r => nest r
  | .nm _ r => nest r
  | .close b r => max (nest b + 1) (nest r)
  | .call r => nest r
abbrev goodN (l : List Nat) : Bool := nameB l
def goodC : Cd → Bool
  | .nil => true
  | .get n r => decide (n ≤ 400) && goodC r
  | .nm l r => goodN l && goodC r
  | .close b r => goodC b && goodC r
  | .call r => goodC r
/-- the stack (its end is its top) behind a code -/
def back : Cd → List Tm → Option (List Tm)
  | .nil, st => some st
  | .get n r, st => back r (st ++ [.av n])
  | .nm l r, st => back r (st ++ [.nm l])
  | .close b r, st => match back b [] with
    | some [t] => back r (st ++ [.fn t])
    | _ => none
  | .call r, st => match st.reverse with
    | a :: f :: s => back r (s.reverse ++ [.cl f a])
    | _ => none
def top1 (c : Cd) : Option Tm := match back c [] with
  | some [t] => some t
  | _ => none
def optD : Option Tm → D
  | none => .non
  | some t => enc t
theorem encC_len : ∀ c, (encC c).length ≤ tot c
  | .nil => Nat.le_refl _
  | .get _ r => by have := encC_len r; simp only [encC, tot, List.length_cons]; omega
  | .nm _ r => by have := encC_len r; simp only [encC, tot, List.length_cons]; omega
  | .close b r => by have := encC_len r; simp only [encC, tot, List.length_cons]; omega
  | .call r => by have := encC_len r; simp only [encC, tot, List.length_cons]; omega
theorem snoc2_cases {α : Type} (l : List α) : (l.reverse = [] ∧ l = []) ∨ (∃ a, l.reverse = [a] ∧ l = [a]) ∨ ∃ L a b, l = L ++ [a, b] ∧ l.reverse = b :: a :: L.reverse := by
  rcases snoc_cases l with rfl | ⟨L, b, rfl⟩
  · exact .inl ⟨rfl, rfl⟩
  · rcases snoc_cases L with rfl | ⟨M, a, rfl⟩
    · exact .inr (.inl ⟨b, rfl, rfl⟩)
    · exact .inr (.inr ⟨M, a, b, by simp, by simp⟩)
theorem close_back {b r : Cd} {st : List Tm} : (∃ t, top1 b = some t ∧ back (.close b r) st = back r (st ++ [.fn t])) ∨ (top1 b = none ∧ back (.close b r) st = none) := by
  cases hb : back b [] with
  | none => exact .inr ⟨by simp only [top1, hb], by rw [back, hb]⟩
  | some l =>
    match l, hb with
    | [], hb => exact .inr ⟨by simp only [top1, hb], by rw [back, hb]⟩
    | [t], hb => exact .inl ⟨t, by simp only [top1, hb], by rw [back, hb]⟩
    | a :: b' :: s, hb => exact .inr ⟨by simp only [top1, hb], by rw [back, hb]⟩
/-- what the stack's parts are -/
theorem back_ok : ∀ (c : Cd) (st st' : List Tm) (m : Nat), 1 ≤ m → goodC c = true → (∀ t ∈ st, dp t ≤ m ∧ good t = true) → back c st = some st' → ∀ t ∈ st', dp t ≤ m + wid c ∧ good t = true
  | .nil, st, st', m, hm, hg, h, e => by cases e; exact h
  | .get n r, st, st', m, hm, hg, h, e => by
    simp only [goodC, Bool.and_eq_true] at hg
    refine back_ok r _ st' m hm hg.2 (fun t ht => ?_) e
    rcases List.mem_append.mp ht with q | q
    · exact h t q
    · rw [List.mem_singleton] at q; subst q; exact ⟨hm, rfl⟩
  | .nm l r, st, st', m, hm, hg, h, e => by
    simp only [goodC, Bool.and_eq_true] at hg
    refine back_ok r _ st' m hm hg.2 (fun t ht => ?_) e
    rcases List.mem_append.mp ht with q | q
    · exact h t q
    · rw [List.mem_singleton] at q; subst q; exact ⟨hm, hg.1⟩
  | .close b r, st, st', m, hm, hg, h, e => by
    simp only [goodC, Bool.and_eq_true] at hg
    unfold back at e
    split at e
    · rename_i t0 e0
      have hb := back_ok b [] _ 1 (Nat.le_refl _) hg.1 (fun t ht => by cases ht) e0 t0 List.mem_cons_self
      intro t ht
      have := back_ok r _ st' (m + wid b + 1) (by omega) hg.2 (fun t ht => ?_) e t ht
      · exact ⟨by simp only [wid]; omega, this.2⟩
      · rcases List.mem_append.mp ht with q | q
        · exact ⟨by have := (h t q).1; omega, (h t q).2⟩
        · rw [List.mem_singleton] at q; subst q; exact ⟨by simp only [dp]; omega, hb.2⟩
    · cases e
  | .call r, st, st', m, hm, hg, h, e => by
    unfold back at e
    split at e
    · rename_i a f s hs
      have hst : st = s.reverse ++ [f, a] := by
        have := congrArg List.reverse hs
        simpa using this
      intro t ht
      have := back_ok r _ st' (m + 1) (by omega) (by simpa [goodC] using hg) (fun t ht => ?_) e t ht
      · exact ⟨by simp only [wid]; omega, this.2⟩
      · rcases List.mem_append.mp ht with q | q
        · have := h t (by rw [hst]; exact List.mem_append_left _ q)
          exact ⟨by omega, this.2⟩
        · rw [List.mem_singleton] at q; subst q
          have h1 := h f (by rw [hst]; simp)
          have h2 := h a (by rw [hst]; simp)
          exact ⟨by simp only [dp]; omega, by simp [good, h1.2, h2.2]⟩
    · cases e
theorem szs_app (l m : List Tm) : szs (l ++ m) = szs l + szs m := by simp [szs]
theorem back_sz : ∀ (c : Cd) (st st' : List Tm), back c st = some st' → szs st' ≤ szs st + tot c
  | .nil, st, st', e => by cases e; simp [tot]
  | .get n r, st, st', e => by
    have := back_sz r _ st' e
    rw [szs_app] at this
    simp only [tot, szs, List.map_cons, List.map_nil, List.sum_cons, List.sum_nil, sz] at this ⊢; omega
  | .nm n r, st, st', e => by
    have := back_sz r _ st' e
    rw [szs_app] at this
    simp only [tot, szs, List.map_cons, List.map_nil, List.sum_cons, List.sum_nil, sz] at this ⊢; omega
  | .close b r, st, st', e => by
    unfold back at e
    split at e
    · rename_i t0 e0
      have h0 := back_sz b [] _ e0
      have := back_sz r _ st' e
      rw [szs_app] at this
      simp only [tot, szs, List.map_cons, List.map_nil, List.sum_cons, List.sum_nil, sz] at this h0 ⊢; omega
    · cases e
  | .call r, st, st', e => by
    unfold back at e
    split at e
    · rename_i a f s hs
      have hst : st = s.reverse ++ [f, a] := by
        have := congrArg List.reverse hs
        simpa using this
      have := back_sz r _ st' e
      rw [szs_app] at this
      rw [hst, szs_app]
      simp only [tot, szs, List.map_cons, List.map_nil, List.sum_cons, List.sum_nil, sz] at this ⊢; omega
    · cases e
theorem top1_ok {c : Cd} {t : Tm} (hg : goodC c = true) (h : top1 c = some t) : dp t ≤ 1 + wid c ∧ good t = true ∧ sz t ≤ tot c := by
  unfold top1 at h
  split at h
  · rename_i t0 e
    cases h
    have h1 := back_ok c [] _ 1 (Nat.le_refl _) hg (fun t ht => by cases ht) e t List.mem_cons_self
    have h2 := back_sz c [] _ e
    simp only [szs, List.map_cons, List.map_nil, List.sum_cons, List.sum_nil] at h2
    exact ⟨h1.1, h1.2, by omega⟩
  · cases h
theorem f6_get {m : Nat} {left : Int} {st : List Tm} {n : Nat} {S : Sto} {p : Addr} {Q : QD} {E : QX} (hm : m ≤ 400) (hl : st.length ≤ 1000) (hp : S p = some (.lst (st.map enc))) (q : ∀ S', Sxb p S S' → S' p = some (.lst ((st ++ [Tm.av m]).map enc)) → Q (.bl true) S') :
    (lvl prg (n + 2)).fn 3 [.tup [sGt, .int m], .ref p, .int left] S Q E := by
  refine ⟨rfl, ?_⟩
  unfold ir3
  walk_at "s"; walk_at "e"
  refine eqW_t0 rfl ?_
  walk_at "e"
  walk_at "s"; walk_at "s"; walk_at "e"
  walk_at "s"; walk_at "e"
  refine eqW_of rfl rfl (by decide) ?_
  walk_at "e"
  refine w_int ?_
  rw [decide_eq_true (by omega), decide_eq_true (by omega)]
  walk_at "e"
  walk_at "s"; walk_at "e"
  refine ⟨⟨_, hp⟩, bm_app hp (by rw [List.length_map]; exact of_eq_true (sz_lt (by omega))) ?_⟩
  walk_at "s"; walk_at "e"
  exact q _ Sxb.put (by rw [Sto.upd_same]; simp [enc])
theorem f6_nm {m : List Nat} {left : Int} {st : List Tm} {n : Nat} {S : Sto} {p : Addr} {Q : QD} {E : QX} (hm : goodN m = true) (hl : st.length ≤ 1000) (hp : S p = some (.lst (st.map enc))) (q : ∀ S', Sxb p S S' → S' p = some (.lst ((st ++ [Tm.nm m]).map enc)) → Q (.bl true) S') :
    (lvl prg (n + 2)).fn 3 [.tup [sNm, .str m], .ref p, .int left] S Q E := by
  have hgd := enc_gd (.nm m) hm
  refine ⟨rfl, ?_⟩
  unfold ir3
  simp only [enc] at hgd
  walk_at "s"; walk_at "e"
  refine eqW_t0 hgd ?_
  walk_at "e"
  walk_at "s"; walk_at "s"; walk_at "e"
  walk_at "s"; walk_at "e"
  refine eqW_of rfl rfl (by decide) ?_
  walk_at "e"
  walk_at "s"
  walk_at "s"; walk_at "e"
  refine eqW_of rfl rfl (by decide) ?_
  walk_at "e"
  refine w_name (nameB_lt hm) (nameB_len hm) fun S1 x1 => ?_
  rw [show nameB m = true from hm]
  have hp1 := x1 _ _ hp
  walk_at "e"
  walk_at "s"; walk_at "e"
  refine ⟨⟨_, hp1⟩, bm_app hp1 (by rw [List.length_map]; exact of_eq_true (sz_lt (by omega))) ?_⟩
  walk_at "s"; walk_at "e"
  exact q _ (x1.b.trans Sxb.put) (by rw [Sto.upd_same]; simp [enc])
theorem f6_call {left : Int} {L : List Tm} {f a : Tm} {n : Nat} {S : Sto} {p : Addr} {Q : QD} {E : QX} (hl : L.length ≤ 1000) (hp : S p = some (.lst ((L ++ [f, a]).map enc))) (q : ∀ S', Sxb p S S' → S' p = some (.lst ((L ++ [Tm.cl f a]).map enc)) → Q (.bl true) S') :
    (lvl prg (n + 2)).fn 3 [.tup [sCl], .ref p, .int left] S Q E := by
  refine ⟨rfl, ?_⟩
  unfold ir3
  walk_at "s"; walk_at "e"
  refine eqW_t0 rfl ?_
  walk_at "e"
  walk_at "s"; walk_at "s"; walk_at "e"
  walk_at "s"; walk_at "e"
  refine eqW_of rfl rfl (by decide) ?_
  walk_at "e"
  walk_at "s"
  walk_at "s"; walk_at "e"
  refine eqW_of rfl rfl (by decide) ?_
  walk_at "e"
  walk_at "s"
  walk_at "s"; walk_at "e"
  refine eqW_of rfl rfl (by decide) ?_
  walk_at "e"
  walk_at "s"
  walk_at "s"; walk_at "e"
  refine eqW_of rfl rfl (by decide) ?_
  have h1 : decide ((1 : Int) < ((((L ++ [f, a]).map enc).length : Nat) : Int)) = true := decide_eq_true (by simp only [List.length_map, List.length_append, List.length_cons, List.length_nil]; omega)
  walk_at "e"
  simp only [hp, h1]
  walk_at "e"
  walk_at "s"; walk_at "e"
  have hp2 : S p = some (.lst (L.map enc ++ [enc f] ++ [enc a])) := by rw [hp]; simp
  refine ⟨⟨_, hp2⟩, bm_pop hp2 ?_⟩
  walk_at "s"; walk_at "e"
  have hp3 : S.upd p (Cell.lst (L.map enc ++ [enc f])) p = some (.lst (L.map enc ++ [enc f])) := Sto.upd_same
  refine ⟨⟨_, hp3⟩, ⟨_, hp3⟩, bm_pop hp3 ?_⟩
  refine bm_app Sto.upd_same (by rw [List.length_map]; exact of_eq_true (sz_lt (by omega))) ?_
  walk_at "s"; walk_at "e"
  exact q _ ((Sxb.put.trans Sxb.put).trans Sxb.put) (by rw [Sto.upd_same]; simp [enc])
theorem f6_call_no {left : Int} {st : List Tm} {n : Nat} {S : Sto} {p : Addr} {Q : QD} {E : QX} (hl : st.length < 2) (hp : S p = some (.lst (st.map enc))) (q : Q (.bl false) S) : (lvl prg (n + 2)).fn 3 [.tup [sCl], .ref p, .int left] S Q E := by
  refine ⟨rfl, ?_⟩
  unfold ir3
  walk_at "s"; walk_at "e"
  refine eqW_t0 rfl ?_
  walk_at "e"
  walk_at "s"; walk_at "s"; walk_at "e"
  walk_at "s"; walk_at "e"
  refine eqW_of rfl rfl (by decide) ?_
  walk_at "e"
  walk_at "s"
  walk_at "s"; walk_at "e"
  refine eqW_of rfl rfl (by decide) ?_
  walk_at "e"
  walk_at "s"
  walk_at "s"; walk_at "e"
  refine eqW_of rfl rfl (by decide) ?_
  walk_at "e"
  walk_at "s"
  walk_at "s"; walk_at "e"
  refine eqW_of rfl rfl (by decide) ?_
  have h1 : decide ((1 : Int) < (((st.map enc).length : Nat) : Int)) = false := decide_eq_false (by simp only [List.length_map]; omega)
  walk_at "e"
  simp only [hp, h1]
  walk_at "e"
  walk_at "s"
  walk_at "s"; walk_at "e"
  exact q
theorem f6_close {left : Int} {st : List Tm} {b : Cd} {n : Nat} {S : Sto} {p : Addr} {Q : QD} {E : QX} (hg : gd (.tup (encC b)) = true) (hl : st.length ≤ 1000) (hp : S p = some (.lst (st.map enc)))
    (h7 : ∀ (S0 : Sto) (Q0 : QD), (∀ S', Sx S0 S' → Q0 (optD (top1 b)) S') → (lvl prg (n + 1)).fn 4 [.tup (encC b), .int (left - 1)] S0 Q0 E)
    (q : ∀ t S', top1 b = some t → Sxb p S S' → S' p = some (.lst ((st ++ [Tm.fn t]).map enc)) → Q (.bl true) S') (qn : top1 b = none → ∀ S', Sx S S' → Q (.bl false) S') :
    (lvl prg (n + 2)).fn 3 [.tup [sCs, .tup (encC b)], .ref p, .int left] S Q E := by
  refine ⟨rfl, ?_⟩
  unfold ir3
  have hg2 : gd (.tup [sCs, .tup (encC b)]) = true := by
    have h0 : gd sCs = true := rfl
    simp only [gd, gds, h0, Bool.and_true] at hg ⊢
    exact hg
  walk_at "s"; walk_at "e"
  refine eqW_t0 hg2 ?_
  walk_at "e"
  walk_at "s"; walk_at "s"; walk_at "e"
  walk_at "s"; walk_at "e"
  refine eqW_of rfl rfl (by decide) ?_
  walk_at "e"
  walk_at "s"
  walk_at "s"; walk_at "e"
  refine eqW_of rfl rfl (by decide) ?_
  walk_at "e"
  walk_at "s"
  walk_at "s"; walk_at "e"
  refine eqW_of rfl rfl (by decide) ?_
  walk_at "e"
  walk_at "s"; walk_at "e"
  refine h7 _ _ fun S1 x1 => ?_
  have hp1 := x1 _ _ hp
  cases e : top1 b with
  | none =>
    walk_at "s"
    simp only [optD]
    walk_at "e"
    walk_at "s"
    walk_at "s"; walk_at "e"
    exact qn e S1 x1
  | some t =>
    obtain ⟨ta, tds, et⟩ := enc_tup t
    simp only [optD, et]
    walk_at "s"; walk_at "e"
    walk_at "s"; walk_at "e"
    refine ⟨⟨_, hp1⟩, bm_app hp1 (by rw [List.length_map]; exact of_eq_true (sz_lt (by omega))) ?_⟩
    walk_at "s"
    walk_at "s"; walk_at "e"
    exact q t _ e (x1.b.trans Sxb.put) (by rw [Sto.upd_same]; simp [enc, et])
theorem encC_gd : ∀ c, goodC c = true → gds (encC c) = true
  | .nil, _ => rfl
  | .get n r, h => by
    simp only [goodC, Bool.and_eq_true] at h
    have := encC_gd r h.2
    simp [encC, gd, gds, this]
  | .nm l r, h => by
    simp only [goodC, Bool.and_eq_true] at h
    have := encC_gd r h.2
    have h2 := enc_gd (.nm l) h.1
    simp [encC, enc, gd, gds] at h2 ⊢
    exact ⟨h2, this⟩
  | .close b r, h => by
    simp only [goodC, Bool.and_eq_true] at h
    have h1 := encC_gd b h.1
    have h2 := encC_gd r h.2
    simp [encC, gd, gds, h1, h2]
  | .call r, h => by
    have := encC_gd r (by simpa [goodC] using h)
    simp [encC, gd, gds, this]
/-! ### part_by -/
def Lq (c : Cd) : Prop := ∀ (n left : Nat) (st : List Tm) (S : Sto) (p : Addr) (cd : D) (o3 : Option D) (K : En) (X : EX), 2 * nest c + 2 ≤ n → nest c < left → st.length + tot c ≤ 400 → goodC c = true → S p = some (.lst (st.map enc)) →
  (∀ st' S' o3', back c st = some st' → Sxb p S S' → S' p = some (.lst (st'.map enc)) → K.nx [cd, some (.int left), some (.ref p), o3'] S') → (back c st = none → ∀ S', Sxb p S S' → K.rt .non S') →
  forW (fun _ => True) (.nm 3) (fun K σ S => wpSs (lvl prg n) (forBody ir4) K X σ S) K (encC c) [cd, some (.int left), some (.ref p), o3] S
theorem f7_of {c : Cd} (h : Lq c) {n left : Nat} {S : Sto} {Q : QD} {E : QX} (hn : 2 * nest c + 2 ≤ n) (hl : nest c < left) (ht : tot c ≤ 400) (hg : goodC c = true) (q : ∀ S', Sx S S' → Q (optD (top1 c)) S') : (lvl prg (n + 1)).fn 4 [.tup (encC c), .int left] S Q E := by
  refine ⟨rfl, ?_⟩
  unfold ir4
  have hl0 : ((left : Int) == 0) = false := beq_false_of_ne (by omega)
  have hlen : decide ((400 : Int) < ((encC c).length : Int)) = false := decide_eq_false (by have := encC_len c; omega)
  walk_at "s"; walk_at "e"
  simp only [hl0, hlen]
  walk_at "e"
  walk_at "s"; walk_at "s"; walk_at "e"
  intro p hp
  walk_at "s"; walk_at "e"
  refine h n left [] _ p _ _ _ _ hn hl (by simp only [List.length_nil]; omega) hg Sto.upd_same (fun st' S' o3' e x hp' => ?_) (fun e S' x => ?_)
  · dsimp only
    have xx : Sx S S' := (Sxb.put.trans x).of_new hp
    walk_at "s"; walk_at "e"
    match st', e, hp' with
    | [], e, hp' =>
      have e1 : top1 c = none := by unfold top1; rw [e]
      rw [e1] at q
      simp only [hp']
      walk_at "e"
      walk_at "s"; walk_at "e"
      exact q _ xx
    | [t], e, hp' =>
      have e1 : top1 c = some t := by unfold top1; rw [e]
      rw [e1] at q
      simp only [hp']
      walk_at "e"
      walk_at "s"
      walk_at "s"; walk_at "e"
      simp only [hp']
      walk_at "e"
      exact q _ xx
    | a :: b :: r, e, hp' =>
      have e1 : top1 c = none := by unfold top1; rw [e]
      rw [e1] at q
      have hne : ((List.length (List.map enc (a :: b :: r)) : Int) == 1) = false := beq_false_of_ne (by simp only [List.length_map, List.length_cons]; omega)
      simp only [hp', hne]
      walk_at "e"
      walk_at "s"; walk_at "e"
      exact q _ xx
  · have e1 : top1 c = none := by unfold top1; rw [e]
    rw [e1] at q
    exact q _ ((Sxb.put.trans x).of_new hp)
theorem lq_nil : Lq .nil := fun n left st S p cd o3 K X hn hl ht hg hp k _ => ⟨True.intro, k st S o3 rfl (Sxb.refl p S) hp⟩
theorem lq_get {m : Nat} {r : Cd} (ih : Lq r) : Lq (.get m r) := by
  intro n left st S p cd o3 K X hn hl ht hg hp k kn
  simp only [nest] at hn hl
  simp only [tot] at ht
  simp only [goodC, Bool.and_eq_true, decide_eq_true_eq] at hg
  obtain ⟨n, rfl⟩ : ∃ j, n = j + 2 := ⟨n - 2, by omega⟩
  refine forW_step True.intro rfl fun K' knx _ krt _ => ?_
  dsimp only [forBody, ir4]
  walk_at "s"; walk_at "e"
  refine f6_get hg.1 (by omega) hp fun S1 x1 hp1 => ?_
  walk_at "e"
  walk_at "s"
  walk_at "s"
  refine knx _ _ ?_
  exact ih _ left (st ++ [.av m]) S1 p _ _ _ _ (by omega) hl (by simp only [List.length_append, List.length_cons, List.length_nil]; omega) hg.2 hp1 (fun st' S' o3' e x' hp' => k st' S' o3' (by rw [back]; exact e) (x1.trans x') hp') fun e S' x' => kn (by rw [back]; exact e) S' (x1.trans x')
theorem lq_nm {m : List Nat} {r : Cd} (ih : Lq r) : Lq (.nm m r) := by
  intro n left st S p cd o3 K X hn hl ht hg hp k kn
  simp only [nest] at hn hl
  simp only [tot] at ht
  simp only [goodC, Bool.and_eq_true] at hg
  obtain ⟨n, rfl⟩ : ∃ j, n = j + 2 := ⟨n - 2, by omega⟩
  refine forW_step True.intro rfl fun K' knx _ krt _ => ?_
  dsimp only [forBody, ir4]
  walk_at "s"; walk_at "e"
  refine f6_nm hg.1 (by omega) hp fun S1 x1 hp1 => ?_
  walk_at "e"
  walk_at "s"
  walk_at "s"
  refine knx _ _ ?_
  exact ih _ left (st ++ [.nm m]) S1 p _ _ _ _ (by omega) hl (by simp only [List.length_append, List.length_cons, List.length_nil]; omega) hg.2 hp1 (fun st' S' o3' e x' hp' => k st' S' o3' (by rw [back]; exact e) (x1.trans x') hp') fun e S' x' => kn (by rw [back]; exact e) S' (x1.trans x')
theorem lq_call {r : Cd} (ih : Lq r) : Lq (.call r) := by
  intro n left st S p cd o3 K X hn hl ht hg hp k kn
  simp only [nest] at hn hl
  simp only [tot] at ht
  simp only [goodC] at hg
  obtain ⟨n, rfl⟩ : ∃ j, n = j + 2 := ⟨n - 2, by omega⟩
  refine forW_step True.intro rfl fun K' knx _ krt _ => ?_
  dsimp only [forBody, ir4]
  walk_at "s"; walk_at "e"
  have no : st.length < 2 → back (.call r) st = none → wpE (lvl prg (n + 2)) (.call 3 (.cons (.var 3) (.cons (.var 2) (.cons (.var 1) .nil)))) [some cd, some (.int left), some (.ref p), some (.tup [sCl])] S (fun x S1 => x = .bl false ∧ S1 = S) (fun x S1 => X x [some cd, some (.int left), some (.ref p), some (.tup [sCl])] S1) := fun h _ => f6_call_no h hp ⟨rfl, rfl⟩
  rcases snoc2_cases st with ⟨hr, rfl⟩ | ⟨a, hr, rfl⟩ | ⟨L, f, a, rfl, hr⟩
  · refine f6_call_no (by simp) hp ?_
    walk_at "e"
    walk_at "s"; walk_at "e"
    exact krt _ _ (kn (by rw [back]; rfl) S (Sxb.refl p S))
  · refine f6_call_no (by simp) hp ?_
    walk_at "e"
    walk_at "s"; walk_at "e"
    exact krt _ _ (kn (by rw [back]; rfl) S (Sxb.refl p S))
  · have eb : ∀ y, back r (L ++ [.cl f a]) = y → back (.call r) (L ++ [f, a]) = y := fun y e => by rw [back, hr]; simpa using e
    simp only [List.length_append, List.length_cons, List.length_nil] at ht
    refine f6_call (by omega) hp fun S1 x1 hp1 => ?_
    walk_at "e"
    walk_at "s"
    walk_at "s"
    refine knx _ _ ?_
    exact ih _ left (L ++ [.cl f a]) S1 p _ _ _ _ hn hl (by simp only [List.length_append, List.length_cons, List.length_nil]; omega) hg hp1 (fun st' S' o3' e x' hp' => k st' S' o3' (eb _ e) (x1.trans x') hp') fun e S' x' => kn (eb _ e) S' (x1.trans x')
theorem lq_close {b r : Cd} (ihb : Lq b) (ih : Lq r) : Lq (.close b r) := by
  intro n left st S p cd o3 K X hn hl ht hg hp k kn
  simp only [nest] at hn hl
  simp only [tot] at ht
  simp only [goodC, Bool.and_eq_true] at hg
  obtain ⟨n, rfl⟩ : ∃ j, n = j + 2 := ⟨n - 2, by omega⟩
  refine forW_step True.intro rfl fun K' knx _ krt _ => ?_
  dsimp only [forBody, ir4]
  walk_at "s"; walk_at "e"
  obtain ⟨left, rfl⟩ : ∃ j, left = j + 1 := ⟨left - 1, by omega⟩
  have el : ((left + 1 : Nat) : Int) - 1 = (left : Int) := by omega
  have hgd := encC_gd b hg.1
  refine f6_close (by simpa [gd] using hgd) (by omega) hp (fun S0 Q0 q0 => by rw [el]; exact f7_of ihb (by omega) (by omega) (by omega) hg.1 q0) (fun t S1 e x1 hp1 => ?_) fun e S1 x1 => ?_
  · have e2 : back (.close b r) st = back r (st ++ [.fn t]) := by
      rcases close_back (b := b) (r := r) (st := st) with ⟨t', e1, e2⟩ | ⟨e1, e2⟩
      · rw [e] at e1; cases e1; exact e2
      · rw [e] at e1; cases e1
    walk_at "e"
    walk_at "s"
    walk_at "s"
    refine knx _ _ ?_
    exact ih _ (left + 1) (st ++ [.fn t]) S1 p _ _ _ _ (by omega) (by omega) (by simp only [List.length_append, List.length_cons, List.length_nil]; omega) hg.2 hp1 (fun st' S' o3' e x' hp' => k st' S' o3' (by rw [e2]; exact e) (x1.trans x') hp') fun e S' x' => kn (by rw [e2]; exact e) S' (x1.trans x')
  · have e2 : back (.close b r) st = none := by
      rcases close_back (b := b) (r := r) (st := st) with ⟨t', e1, e2⟩ | ⟨e1, e2⟩
      · rw [e] at e1; cases e1
      · exact e2
    walk_at "e"
    walk_at "s"; walk_at "e"
    exact krt _ _ (kn e2 _ x1.b)
theorem lq_all : ∀ c, Lq c
  | .nil => lq_nil
  | .get _ r => lq_get (lq_all r)
  | .nm _ r => lq_nm (lq_all r)
  | .close b r => lq_close (lq_all b) (lq_all r)
  | .call r => lq_call (lq_all r)
theorem f7 {c : Cd} {n left : Nat} {S : Sto} {Q : QD} {E : QX} (hn : 2 * nest c + 2 ≤ n) (hl : nest c < left) (ht : tot c ≤ 400) (hg : goodC c = true) (q : ∀ S', Sx S S' → Q (optD (top1 c)) S') : (lvl prg (n + 1)).fn 4 [.tup (encC c), .int left] S Q E := f7_of (lq_all c) hn hl ht hg q
/-! ### part_of_code -/
end K49
end Mini
end L2
namespace L2
namespace Mini
namespace K49
open PySem PySem.Spec PyProof.Rows
local macro_rules | `(tactic| walk_at "s") => `(tactic| first | with_reducible refine st_set ?_ | with_reducible refine st_ife ?_ | with_reducible refine st_ret ?_ | with_reducible refine st_ex ?_ | with_reducible refine st_unp ?_ | with_reducible refine st_unpl ?_ | with_reducible refine st_unpa ?_ | with_reducible refine st_aug ?_ | with_reducible refine st_for ?_ | with_reducible refine st_whl ?_ | with_reducible refine st_nil ?_ | with_reducible refine st_setix ?_ | with_reducible refine st_raise ?_ | with_reducible refine st_try ?_ | with_reducible refine st_setat ?_ | with_reducible refine st_augat ?_ | with_reducible refine st_pass ?_ | with_reducible refine st_brk ?_ | with_reducible refine st_cnt ?_)
local macro_rules | `(tactic| walk_at "e") => `(tactic| try simp only [fget, fput, eq_self, Nat.reduceEqDiff, and_true, Int.reduceBEq, wpC, goW, List.map_cons, List.map_nil, deq, deqs, List.any_cons, List.any_nil, slW, cut_1, Int.cast_ofNat_Int, Int.natCast_zero, Int.natCast_one, Int.reduceLE, Int.reduceLT, Int.reduceNeg, Int.reduceAdd, Int.reduceSub, decide_true, decide_false, inW_chr, List.contains_cons, List.contains_nil, Bool.or_true, Bool.true_or, Bool.or_false, Bool.false_or, gd, gds, List.all_cons, List.all_nil, Nat.reduceLT, List.zip_cons_cons, List.zip_nil_left, List.foldl_cons, List.foldl_nil, wpT, wpE, wpEs, wpO, wpI, env0, Env.get, List.map, List.length, List.replicate, List.getElem?_cons_zero, List.getElem?_cons_succ, List.nil_append, List.cons_append, List.append_nil, tru, isiW, cmpW, List.set, Nat.reduceSub, Nat.reduceAdd, Bool.not_true, Bool.not_false, Bool.false_eq_true, if_true, if_false, reduceIte, ixW, biW, bmTy, augW, tgW, newW, wpPs, dmerge, sqW_t, sqW_s, binW_ai, binW_si, binW_at, binW_as, binW_mi, binW_di, binW_mo, atI_0, atI_1, atI_2, ex_some, eqW_str, eqW_int, sz0, sz1, sz2, sz3, sz4, sz5, sz6, sz7, sz8, sz9, sz10, sz11, sz12, sz13, sz14, true_and, Bool.false_xor, Bool.true_xor, lb_cc, lb_nc, lb_cn, lb_nn, Nat.reduceBEq, Bool.and_true, Bool.true_and, Bool.false_and, Bool.and_false, beq_self_eq_true, binW_ms])
local macro_rules | `(tactic| walk_at "r") => `(tactic| ((try walk_at "s"); walk_at "e"; repeat (walk_at "s"; walk_at "e")))
local macro_rules | `(tactic| walk_at "w") => `(tactic| simp only [wpSs, wpS, wpT, wpE, wpEs, wpO, wpI, env0, Env.get, List.map, List.length, List.replicate, List.getElem?_cons_zero, List.getElem?_cons_succ, List.nil_append, List.cons_append, List.append_nil, tru, isiW, cmpW, List.set, Nat.reduceSub, Nat.reduceAdd, Bool.not_true, Bool.not_false, Bool.false_eq_true, if_true, if_false, reduceIte, ixW, biW, bmTy, sqW_t, sqW_s, binW_ai, binW_si, binW_at, binW_as, binW_mi, binW_di, binW_mo, atI_0, atI_1, atI_2, ex_some, eqW_str, eqW_int, sz0, sz1, sz2, sz3, sz4, sz5, sz6, sz7, sz11, true_and, Bool.false_xor, Bool.true_xor, lb_cc, lb_nc, lb_cn, lb_nn, Nat.reduceBEq, Bool.and_true, Bool.true_and, Bool.false_and, Bool.and_false, beq_self_eq_true])
local macro_rules | `(tactic| walk_at "q") => `(tactic| refine eqW_of rfl rfl (Nat.le_of_ble_eq_true rfl) ?_)
local macro_rules | `(tactic| walk_at "g") => `(tactic| (walk_at "r"; repeat (walk_at "q"; walk_at "r")))
/-! ### rows of orders -/
inductive Od where | get (n : Nat) | nm (l : List Nat) | close (b : Cd) | call
def encO : Od → D
  | .get n => .tup [sGt, .int n]
  | .nm l => .tup [sNm, .str l]
  | .close b => .tup [sCs, .tup (encC b)]
  | .call => .tup [sCl]
def ofL : List Od → Cd
  | [] => .nil
  | .get n :: r => .get n (ofL r)
  | .nm l :: r => .nm l (ofL r)
  | .close b :: r => .close b (ofL r)
  | .call :: r => .call (ofL r)
theorem encC_ofL : ∀ l, encC (ofL l) = l.map encO
  | [] => rfl
  | .get n :: r => by simp [ofL, encC, encO, encC_ofL r]
  | .nm l :: r => by simp [ofL, encC, encO, encC_ofL r]
  | .close b :: r => by simp [ofL, encC, encO, encC_ofL r]
  | .call :: r => by simp [ofL, encC, encO, encC_ofL r]
def cod : Tm → List Od
  | .av n => [.get n]
  | .nm l => [.nm l]
  | .fn t => [.close (ofL (cod t))]
  | .cl t u => cod t ++ cod u ++ [.call]
theorem code_cod : ∀ t, code t = (cod t).map encO
  | .av _ => rfl
  | .nm _ => rfl
  | .fn t => by simp [code, cod, encO, encC_ofL, code_cod t]
  | .cl t u => by simp [code, cod, encO, code_cod t, code_cod u]
def oT : Od → Nat
  | .close b => tot b + 1
  | _ => 1
def oW : Od → Nat
  | .close b => wid b + 1
  | .call => 1
  | _ => 0
def oN : Od → Nat
  | .close b => nest b + 1
  | _ => 0
def oG : Od → Bool
  | .get n => decide (n ≤ 400)
  | .nm l => goodN l
  | .close b => goodC b
  | .call => true
theorem tot_ofL : ∀ l, tot (ofL l) = (l.map oT).sum
  | [] => rfl
  | .get n :: r => by simp [ofL, tot, oT, tot_ofL r]; omega
  | .nm l :: r => by simp [ofL, tot, oT, tot_ofL r]; omega
  | .close b :: r => by simp [ofL, tot, oT, tot_ofL r]; omega
  | .call :: r => by simp [ofL, tot, oT, tot_ofL r]; omega
theorem wid_ofL : ∀ l, wid (ofL l) = (l.map oW).sum
  | [] => rfl
  | .get n :: r => by simp [ofL, wid, oW, wid_ofL r]
  | .nm l :: r => by simp [ofL, wid, oW, wid_ofL r]
  | .close b :: r => by simp [ofL, wid, oW, wid_ofL r]; omega
  | .call :: r => by simp [ofL, wid, oW, wid_ofL r]; omega
theorem nest_ofL {N : Nat} : ∀ l, (∀ o ∈ l, oN o ≤ N) → nest (ofL l) ≤ N
  | [], _ => Nat.zero_le _
  | .get n :: r, h => nest_ofL r fun o ho => h o (List.mem_cons_of_mem _ ho)
  | .nm l :: r, h => nest_ofL r fun o ho => h o (List.mem_cons_of_mem _ ho)
  | .close b :: r, h => by
    have h1 := h _ List.mem_cons_self
    have h2 := nest_ofL r fun o ho => h o (List.mem_cons_of_mem _ ho)
    simp only [oN] at h1
    simp only [ofL, nest]; omega
  | .call :: r, h => nest_ofL r fun o ho => h o (List.mem_cons_of_mem _ ho)
theorem good_ofL : ∀ l, (∀ o ∈ l, oG o = true) → goodC (ofL l) = true
  | [], _ => rfl
  | o :: r, h => by
    have h1 := h _ List.mem_cons_self
    have h2 := good_ofL r fun o ho => h o (List.mem_cons_of_mem _ ho)
    cases o <;> simp_all [ofL, goodC, oG]
theorem cod_T : ∀ t, ((cod t).map oT).sum = sz t
  | .av _ => rfl
  | .nm _ => rfl
  | .fn t => by simp [cod, oT, sz, tot_ofL, cod_T t]
  | .cl t u => by simp [cod, oT, sz, cod_T t, cod_T u]; omega
theorem cod_W : ∀ t, ((cod t).map oW).sum = fi t
  | .av _ => rfl
  | .nm _ => rfl
  | .fn t => by simp [cod, oW, fi, wid_ofL, cod_W t]
  | .cl t u => by simp [cod, oW, fi, cod_W t, cod_W u]; omega
theorem cod_N : ∀ t, ∀ o ∈ cod t, oN o ≤ fi t
  | .av _, o, h => by simp [cod] at h; subst h; exact Nat.zero_le _
  | .nm _, o, h => by simp [cod] at h; subst h; exact Nat.zero_le _
  | .fn t, o, h => by
    simp [cod] at h
    subst h
    have := nest_ofL (cod t) (cod_N t)
    simp only [oN, fi]; omega
  | .cl t u, o, h => by
    simp only [cod, List.mem_append, List.mem_singleton] at h
    rcases h with (h | h) | h
    · have := cod_N t o h; simp only [fi]; omega
    · have := cod_N u o h; simp only [fi]; omega
    · subst h; exact Nat.zero_le _
theorem cod_G : ∀ (t : Tm) {a : Nat}, good t = true → clo a t = true → a + dp t ≤ 400 → ∀ o ∈ cod t, oG o = true
  | .av j, a, _, c, d, o, h => by
    simp only [cod, List.mem_singleton] at h; subst h
    simp only [clo, decide_eq_true_eq, dp] at c d
    exact decide_eq_true (by omega)
  | .nm _, a, g, c, d, o, h => by simp [cod] at h; subst h; exact g
  | .fn t, a, g, c, d, o, h => by
    simp only [cod, List.mem_singleton] at h
    subst h
    simp only [clo, dp] at c d
    exact good_ofL (cod t) (cod_G t g c (by omega))
  | .cl t u, a, g, c, d, o, h => by
    simp only [good, Bool.and_eq_true] at g
    simp only [clo, Bool.and_eq_true, dp] at c d
    simp only [cod, List.mem_append, List.mem_singleton] at h
    rcases h with (h | h) | h
    · exact cod_G t g.1 c.1 (by omega) o h
    · exact cod_G u g.2 c.2 (by omega) o h
    · subst h; rfl
theorem back_cod : ∀ (t : Tm) (l : List Od) (st : List Tm), back (ofL (cod t ++ l)) st = back (ofL l) (st ++ [t])
  | .av _, l, st => rfl
  | .nm _, l, st => rfl
  | .fn t, l, st => by
    have h := back_cod t [] []
    rw [List.append_nil] at h
    show back (.close (ofL (cod t)) (ofL l)) st = _
    rw [back, h]
    rfl
  | .cl t u, l, st => by
    show back (ofL (cod t ++ cod u ++ [.call] ++ l)) st = _
    rw [List.append_assoc, List.append_assoc, back_cod t, back_cod u]
    show back (.call (ofL l)) (st ++ [t] ++ [u]) = _
    rw [back]
    simp
theorem top_cod (t : Tm) : top1 (ofL (cod t)) = some t := by
  have h := back_cod t [] []
  rw [List.append_nil] at h
  unfold top1
  rw [h]
  rfl
/-- a code near one of a part -/
structure Near (l : List Od) : Prop where
  t : (l.map oT).sum ≤ 130
  w : (l.map oW).sum ≤ 61
  n : ∀ o ∈ l, oN o ≤ 30
  g : ∀ o ∈ l, oG o = true
theorem encC_pls : ∀ c, goodC c = true → tot c ≤ 1000 → pls (encC c) = true
  | .nil, _, _ => rfl
  | .get n r, h, ht => by
    simp only [goodC, Bool.and_eq_true] at h
    simp only [tot] at ht
    have := encC_pls r h.2 (by omega)
    simp [encC, pl, pls, this]
  | .nm l r, h, ht => by
    simp only [goodC, Bool.and_eq_true] at h
    simp only [tot] at ht
    have := encC_pls r h.2 (by omega)
    have h2 := enc_pl (.nm l) h.1
    simp [encC, enc, pl, pls] at h2 ⊢
    exact ⟨h2, this⟩
  | .close b r, h, ht => by
    simp only [goodC, Bool.and_eq_true] at h
    simp only [tot] at ht
    have h1 := encC_pls b h.1 (by omega)
    have h2 := encC_pls r h.2 (by omega)
    have h3 := encC_len b
    have h4 : (encC b).length ≤ 1000 := by omega
    simp [encC, pl, pls, h1, h2, h4]
  | .call r, h, ht => by
    simp only [tot] at ht
    have := encC_pls r (by simpa [goodC] using h) (by omega)
    simp [encC, pl, pls, this]
theorem encC_dds : ∀ c, dds (encC c) ≤ 2 * nest c + 1
  | .nil => by simp [encC, dds]
  | .get _ r => by have := encC_dds r; simp only [encC, dd, dds, nest]; omega
  | .nm _ r => by have := encC_dds r; simp only [encC, dd, dds, nest]; omega
  | .close b r => by have := encC_dds r; have := encC_dds b; simp only [encC, dd, dds, nest]; omega
  | .call r => by have := encC_dds r; simp only [encC, dd, dds, nest]; omega
end K49
end Mini
end L2
namespace L2
namespace Mini
namespace K49
open PySem PySem.Spec PyProof.Rows
local macro_rules | `(tactic| walk_at "s") => `(tactic| first | with_reducible refine st_set ?_ | with_reducible refine st_ife ?_ | with_reducible refine st_ret ?_ | with_reducible refine st_ex ?_ | with_reducible refine st_unp ?_ | with_reducible refine st_unpl ?_ | with_reducible refine st_unpa ?_ | with_reducible refine st_aug ?_ | with_reducible refine st_for ?_ | with_reducible refine st_whl ?_ | with_reducible refine st_nil ?_ | with_reducible refine st_setix ?_ | with_reducible refine st_raise ?_ | with_reducible refine st_try ?_ | with_reducible refine st_setat ?_ | with_reducible refine st_augat ?_ | with_reducible refine st_pass ?_ | with_reducible refine st_brk ?_ | with_reducible refine st_cnt ?_)
local macro_rules | `(tactic| walk_at "e") => `(tactic| try simp only [fget, fput, eq_self, Nat.reduceEqDiff, and_true, Int.reduceBEq, wpC, goW, List.map_cons, List.map_nil, deq, deqs, List.any_cons, List.any_nil, slW, cut_1, Int.cast_ofNat_Int, Int.natCast_zero, Int.natCast_one, Int.reduceLE, Int.reduceLT, Int.reduceNeg, Int.reduceAdd, Int.reduceSub, decide_true, decide_false, inW_chr, List.contains_cons, List.contains_nil, Bool.or_true, Bool.true_or, Bool.or_false, Bool.false_or, gd, gds, List.all_cons, List.all_nil, Nat.reduceLT, List.zip_cons_cons, List.zip_nil_left, List.foldl_cons, List.foldl_nil, wpT, wpE, wpEs, wpO, wpI, env0, Env.get, List.map, List.length, List.replicate, List.getElem?_cons_zero, List.getElem?_cons_succ, List.nil_append, List.cons_append, List.append_nil, tru, isiW, cmpW, List.set, Nat.reduceSub, Nat.reduceAdd, Bool.not_true, Bool.not_false, Bool.false_eq_true, if_true, if_false, reduceIte, ixW, biW, bmTy, augW, tgW, newW, wpPs, dmerge, sqW_t, sqW_s, binW_ai, binW_si, binW_at, binW_as, binW_mi, binW_di, binW_mo, atI_0, atI_1, atI_2, ex_some, eqW_str, eqW_int, sz0, sz1, sz2, sz3, sz4, sz5, sz6, sz7, sz8, sz9, sz10, sz11, sz12, sz13, sz14, true_and, Bool.false_xor, Bool.true_xor, lb_cc, lb_nc, lb_cn, lb_nn, Nat.reduceBEq, Bool.and_true, Bool.true_and, Bool.false_and, Bool.and_false, beq_self_eq_true, binW_ms])
local macro_rules | `(tactic| walk_at "r") => `(tactic| ((try walk_at "s"); walk_at "e"; repeat (walk_at "s"; walk_at "e")))
local macro_rules | `(tactic| walk_at "w") => `(tactic| simp only [wpSs, wpS, wpT, wpE, wpEs, wpO, wpI, env0, Env.get, List.map, List.length, List.replicate, List.getElem?_cons_zero, List.getElem?_cons_succ, List.nil_append, List.cons_append, List.append_nil, tru, isiW, cmpW, List.set, Nat.reduceSub, Nat.reduceAdd, Bool.not_true, Bool.not_false, Bool.false_eq_true, if_true, if_false, reduceIte, ixW, biW, bmTy, sqW_t, sqW_s, binW_ai, binW_si, binW_at, binW_as, binW_mi, binW_di, binW_mo, atI_0, atI_1, atI_2, ex_some, eqW_str, eqW_int, sz0, sz1, sz2, sz3, sz4, sz5, sz6, sz7, sz11, true_and, Bool.false_xor, Bool.true_xor, lb_cc, lb_nc, lb_cn, lb_nn, Nat.reduceBEq, Bool.and_true, Bool.true_and, Bool.false_and, Bool.and_false, beq_self_eq_true])
local macro_rules | `(tactic| walk_at "q") => `(tactic| refine eqW_of rfl rfl (Nat.le_of_ble_eq_true rfl) ?_)
local macro_rules | `(tactic| walk_at "g") => `(tactic| (walk_at "r"; repeat (walk_at "q"; walk_at "r")))
/-! ### texts: rows of lines, lines of words -/
/-- texts put together by a sign -/
def jn (c : Nat) : List (List Nat) → List Nat
  | [] => []
  | [x] => x
  | x :: y :: r => x ++ c :: jn c (y :: r)
/-- the parts of a text -/
def spl (c : Nat) : List Nat → List (List Nat)
  | [] => [[]]
  | a :: l => if a = c then [] :: spl c l else match spl c l with
    | x :: r => (a :: x) :: r
    | [] => [[a]]
theorem spl_free {c : Nat} : ∀ {x : List Nat}, c ∉ x → spl c x = [x]
  | [], _ => rfl
  | a :: x, h => by
    have h1 : a ≠ c := fun e => h (by rw [e]; exact List.mem_cons_self)
    have h2 := spl_free (x := x) fun e => h (List.mem_cons_of_mem _ e)
    simp only [spl, if_neg h1, h2]
theorem spl_app {c : Nat} {r : List Nat} : ∀ {x : List Nat}, c ∉ x → spl c (x ++ c :: r) = x :: spl c r
  | [], _ => by simp only [List.nil_append, spl, if_true]
  | a :: x, h => by
    have h1 : a ≠ c := fun e => h (by rw [e]; exact List.mem_cons_self)
    have h2 := spl_app (r := r) (x := x) fun e => h (List.mem_cons_of_mem _ e)
    simp only [List.cons_append, spl, if_neg h1, h2]
theorem spl_jn {c : Nat} : ∀ {M : List (List Nat)}, M ≠ [] → (∀ x ∈ M, c ∉ x) → spl c (jn c M) = M
  | [], h, _ => absurd rfl h
  | [x], _, h => spl_free (h x (by simp))
  | x :: y :: r, _, h => by
    have ih := spl_jn (M := y :: r) (by simp) fun z hz => h z (List.mem_cons_of_mem _ hz)
    show spl c (x ++ c :: jn c (y :: r)) = _
    rw [spl_app (h x List.mem_cons_self), ih]
theorem join_jn (c : Nat) : ∀ L : List (List Nat), PySem.Str.join (st [c]) (L.map st) = st (jn c L)
  | [] => rfl
  | [x] => rfl
  | x :: y :: r => by
    have ih := join_jn c (y :: r)
    show st x ++ st [c] ++ PySem.Str.join (st [c]) ((y :: r).map st) = _
    rw [ih, st_app, st_app]
    show st (x ++ [c] ++ jn c (y :: r)) = st (x ++ c :: jn c (y :: r))
    rw [List.append_assoc]
    rfl
theorem txt_join (c : Nat) (L : List (List Nat)) : (Txt.join (st [c]) (L.map st)).cps.toList = jn c L := by
  show (PySem.Builtin.Str.glued (st [c]) (L.map st)).cps.toList = _
  rw [StrLaws.glued_eq_join, join_jn, st_cps]
theorem txt_split (c : Nat) (l : List Nat) : (Txt.split (st l) (st [c])).map (fun y => y.cps.toList) = spl c l := by
  have hf := StrLaws.split_free (st l) c
  have hj := StrLaws.join_split (st l) (st [c])
  have hp := PyProof.Rows.split_pos (st l) (st [c])
  change ∀ a ∈ Txt.split (st l) (st [c]), _ at hf
  generalize Txt.split (st l) (st [c]) = M at hf hj hp
  have e : M = (M.map fun y => y.cps.toList).map st := by
    rw [List.map_map]
    conv => lhs; rw [← List.map_id M]
    exact List.map_congr_left fun y _ => (st_of y).symm
  rw [e, join_jn] at hj
  have hj := st_inj hj
  rw [← hj]
  refine (spl_jn ?_ ?_).symm
  · intro h
    have := congrArg List.length h
    simp at this
    rw [this] at hp
    simp at hp
  · intro x hx
    obtain ⟨y, hy, rfl⟩ := List.mem_map.mp hx
    exact hf y hy
theorem txt_starts (l b : List Nat) : Txt.startswith (st l) (st b) = (l.take b.length == b) := by
  unfold Txt.startswith
  rw [StrLaws.subAt_eq, st_cps, st_cps, st_length, st_length, List.drop_zero, Nat.zero_add]
  by_cases h : b.length ≤ l.length
  · rw [decide_eq_true h, Bool.true_and]
  · rw [decide_eq_false h, Bool.false_and]
    refine (beq_eq_false_iff_ne.mpr fun e => h ?_).symm
    have := congrArg List.length e
    rw [List.length_take] at this
    omega
end K49
end Mini
end L2
namespace L2
namespace Mini
namespace K49
open PySem PySem.Spec PyProof.Rows
local macro_rules | `(tactic| walk_at "s") => `(tactic| first | with_reducible refine st_set ?_ | with_reducible refine st_ife ?_ | with_reducible refine st_ret ?_ | with_reducible refine st_ex ?_ | with_reducible refine st_unp ?_ | with_reducible refine st_unpl ?_ | with_reducible refine st_unpa ?_ | with_reducible refine st_aug ?_ | with_reducible refine st_for ?_ | with_reducible refine st_whl ?_ | with_reducible refine st_nil ?_ | with_reducible refine st_setix ?_ | with_reducible refine st_raise ?_ | with_reducible refine st_try ?_ | with_reducible refine st_setat ?_ | with_reducible refine st_augat ?_ | with_reducible refine st_pass ?_ | with_reducible refine st_brk ?_ | with_reducible refine st_cnt ?_)
local macro_rules | `(tactic| walk_at "e") => `(tactic| try simp only [fget, fput, eq_self, Nat.reduceEqDiff, and_true, Int.reduceBEq, wpC, goW, List.map_cons, List.map_nil, deq, deqs, List.any_cons, List.any_nil, slW, cut_1, Int.cast_ofNat_Int, Int.natCast_zero, Int.natCast_one, Int.reduceLE, Int.reduceLT, Int.reduceNeg, Int.reduceAdd, Int.reduceSub, decide_true, decide_false, inW_chr, List.contains_cons, List.contains_nil, Bool.or_true, Bool.true_or, Bool.or_false, Bool.false_or, gd, gds, List.all_cons, List.all_nil, Nat.reduceLT, List.zip_cons_cons, List.zip_nil_left, List.foldl_cons, List.foldl_nil, wpT, wpE, wpEs, wpO, wpI, env0, Env.get, List.map, List.length, List.replicate, List.getElem?_cons_zero, List.getElem?_cons_succ, List.nil_append, List.cons_append, List.append_nil, tru, isiW, cmpW, List.set, Nat.reduceSub, Nat.reduceAdd, Bool.not_true, Bool.not_false, Bool.false_eq_true, if_true, if_false, reduceIte, ixW, biW, bmTy, augW, tgW, newW, wpPs, dmerge, sqW_t, sqW_s, binW_ai, binW_si, binW_at, binW_as, binW_mi, binW_di, binW_mo, atI_0, atI_1, atI_2, ex_some, eqW_str, eqW_int, sz0, sz1, sz2, sz3, sz4, sz5, sz6, sz7, sz8, sz9, sz10, sz11, sz12, sz13, sz14, true_and, Bool.false_xor, Bool.true_xor, lb_cc, lb_nc, lb_cn, lb_nn, Nat.reduceBEq, Bool.and_true, Bool.true_and, Bool.false_and, Bool.and_false, beq_self_eq_true, binW_ms])
local macro_rules | `(tactic| walk_at "r") => `(tactic| ((try walk_at "s"); walk_at "e"; repeat (walk_at "s"; walk_at "e")))
local macro_rules | `(tactic| walk_at "w") => `(tactic| simp only [wpSs, wpS, wpT, wpE, wpEs, wpO, wpI, env0, Env.get, List.map, List.length, List.replicate, List.getElem?_cons_zero, List.getElem?_cons_succ, List.nil_append, List.cons_append, List.append_nil, tru, isiW, cmpW, List.set, Nat.reduceSub, Nat.reduceAdd, Bool.not_true, Bool.not_false, Bool.false_eq_true, if_true, if_false, reduceIte, ixW, biW, bmTy, sqW_t, sqW_s, binW_ai, binW_si, binW_at, binW_as, binW_mi, binW_di, binW_mo, atI_0, atI_1, atI_2, ex_some, eqW_str, eqW_int, sz0, sz1, sz2, sz3, sz4, sz5, sz6, sz7, sz11, true_and, Bool.false_xor, Bool.true_xor, lb_cc, lb_nc, lb_cn, lb_nn, Nat.reduceBEq, Bool.and_true, Bool.true_and, Bool.false_and, Bool.and_false, beq_self_eq_true])
local macro_rules | `(tactic| walk_at "q") => `(tactic| refine eqW_of rfl rfl (Nat.le_of_ble_eq_true rfl) ?_)
local macro_rules | `(tactic| walk_at "g") => `(tactic| (walk_at "r"; repeat (walk_at "q"; walk_at "r")))
/-! ### the lines of a code -/
def lnC : Cd → List (List Nat)
  | .nil => []
  | .get n r => ([103, 101, 116, 32] ++ istr (n : Int)) :: lnC r
  | .nm w r => ([110, 97, 109, 101, 32] ++ w) :: lnC r
  | .call r => [99, 97, 108, 108] :: lnC r
  | .close b r => [99, 108, 111, 115, 101] :: (lnC b ++ ([101, 110, 100] :: lnC r))
theorem lnC_len : ∀ c, (lnC c).length ≤ 2 * tot c
  | .nil => by simp [lnC]
  | .get _ r => by have := lnC_len r; simp only [lnC, tot, List.length_cons]; omega
  | .nm _ r => by have := lnC_len r; simp only [lnC, tot, List.length_cons]; omega
  | .call r => by have := lnC_len r; simp only [lnC, tot, List.length_cons]; omega
  | .close b r => by have := lnC_len r; have := lnC_len b; simp only [lnC, tot, List.length_cons, List.length_append]; omega
theorem name12 {l : List Nat} (h : nameB l = true) : l.length ≤ 12 := by
  simp only [nameB, Bool.and_eq_true, decide_eq_true_eq] at h
  exact h.1.1.1.2
theorem istr_small : ∀ n : Nat, n < 401 → (istr (n : Int)).length ≤ 3 := by decide +kernel
def Ll (c : Cd) : Prop := ∀ (n : Nat) (acc : List (List Nat)) (a : Addr) (S : Sto) (cd : D) (o2 o3 : Option D) (K : En) (X : EX), nest c ≤ n → acc.length + 2 * tot c ≤ 1000 → goodC c = true → S a = some (.lst (acc.map .str)) →
  (∀ a' S' o2', S' a' = some (.lst ((acc ++ lnC c).map .str)) → Sx S S' → K.nx [some cd, some (.ref a'), o2', o3] S') →
  forW (fun _ => True) (.nm 2) (fun K σ S => wpSs (lvl prg n) (forBody ir18) K X σ S) K (encC c) [some cd, some (.ref a), o2, o3] S
theorem ll_of {c : Cd} (h : Ll c) {n : Nat} {S : Sto} {Q : QD} {E : QX} (hn : nest c ≤ n) (ht : 2 * tot c ≤ 1000) (hg : goodC c = true) (q : ∀ a S', S' a = some (.lst ((lnC c).map .str)) → Sx S S' → Q (.ref a) S') : (lvl prg (n + 1)).fn 18 [.tup (encC c)] S Q E := by
  refine ⟨rfl, ?_⟩
  have tl : ∀ G K X σ S', wpSs G ir18 K X σ S' = wpSs G (.cons (.set 1 (.lst .nil)) (.cons (.for_ (.nm 2) (.sq (.var 0)) (forBody ir18)) (.cons (.ret (.var 1)) .nil))) K X σ S' := fun _ _ _ _ _ => rfl
  rw [tl]
  walk_at "s"; walk_at "e"
  intro p hp
  walk_at "s"; walk_at "e"
  refine h n [] p _ _ _ _ _ _ hn (by simp only [List.length_nil]; omega) hg Sto.upd_same fun a' S' o2' h' x' => ?_
  dsimp only
  walk_at "s"; walk_at "e"
  exact q a' S' h' ((Sx.new hp).trans x')
theorem ll_nil : Ll .nil := fun n acc a S cd o2 o3 K X hn ht hg ha q => ⟨True.intro, q a S o2 (by simpa [lnC] using ha) (Sx.refl S)⟩
theorem add_one {a : Addr} {acc : List (List Nat)} {w : List Nat} {S S1 : Sto} {Q : QD} (ha : S a = some (.lst (acc.map .str))) (hl : acc.length ≤ 999999) (x : Sx S S1) (q : ∀ p S', S' p = some (.lst ((acc ++ [w]).map .str)) → Sx S S' → Q (.ref p) S') : ∀ p, S1 p = none → binW .add (.ref a) (.ref p) (S1.upd p (.lst [.str w])) Q := fun p hp => by
  have ne : a ≠ p := new_ne (x _ _ ha) hp
  refine binW_ll (xs := acc.map .str) (ys := [.str w]) (by rw [Sto.upd_ne ne]; exact x _ _ ha) Sto.upd_same (by simp only [List.length_map, List.length_cons, List.length_nil]; omega) fun p2 hp2 => ?_
  exact q p2 _ (by rw [Sto.upd_same]; simp) ((x.trans (Sx.new hp)).trans (Sx.new hp2))
theorem ll_get {m : Nat} {r : Cd} (ih : Ll r) : Ll (.get m r) := by
  intro n acc a S cd o2 o3 K X hn ht hg ha q
  simp only [nest] at hn
  simp only [tot] at ht
  simp only [goodC, Bool.and_eq_true, decide_eq_true_eq] at hg
  have hm := istr_small m (by omega)
  simp only [encC]
  refine forW_step True.intro rfl fun K' knx _ _ _ => ?_
  dsimp only [forBody, ir18]
  walk_at "s"; walk_at "e"
  walk_at "s"; walk_at "e"
  intro p hp
  have ne : a ≠ p := new_ne ha hp
  refine ⟨_, Sto.upd_same, of_eq_true (sz_lt (by decide)), ?_, _, Sto.upd_same, of_eq_true (sz_lt (by decide)), ?_⟩
  · have : ((m : Int)).natAbs.log2 ≤ m := by rw [Int.natAbs_natCast]; exact Nat.log2_le_self m
    omega
  show ∃ ls : List (List Nat), _ ∧ _ ∧ _
  refine ⟨[[103, 101, 116], istr (m : Int)], by unfold rd; rw [Sto.upd_same]; rfl, by simp only [List.map_cons, List.map_nil, List.sum_cons, List.sum_nil, List.length_cons, List.length_nil]; omega, ?_⟩
  rw [txt_join]
  refine add_one (S := S) (acc := acc) (w := [103, 101, 116, 32] ++ istr (m : Int)) ha (by omega) ((((Sx.new hp).b.trans Sxb.put).trans Sxb.put).of_new hp) fun a' S' h' x' => ?_
  walk_at "s"
  walk_at "s"
  refine knx _ _ (ih n (acc ++ [_]) a' S' cd _ o3 K X hn (by simp only [List.length_append, List.length_cons, List.length_nil]; omega) hg.2 h' fun a2 S2 o2 h2 x2 => q a2 S2 o2 (by rw [h2]; simp only [lnC, List.append_assoc]; rfl) (x'.trans x2))
theorem ll_nm {m : List Nat} {r : Cd} (ih : Ll r) : Ll (.nm m r) := by
  intro n acc a S cd o2 o3 K X hn ht hg ha q
  simp only [nest] at hn
  simp only [tot] at ht
  simp only [goodC, Bool.and_eq_true, decide_eq_true_eq] at hg
  have hm := name12 hg.1
  simp only [encC]
  refine forW_step True.intro rfl fun K' knx _ _ _ => ?_
  dsimp only [forBody, ir18]
  walk_at "s"; walk_at "e"
  walk_at "s"; walk_at "e"
  intro p hp
  have ne : a ≠ p := new_ne ha hp
  refine ⟨_, Sto.upd_same, of_eq_true (sz_lt (by decide)), _, Sto.upd_same, of_eq_true (sz_lt (by decide)), ?_⟩
  show ∃ ls : List (List Nat), _ ∧ _ ∧ _
  refine ⟨[[110, 97, 109, 101], m], by unfold rd; rw [Sto.upd_same]; rfl, by simp only [List.map_cons, List.map_nil, List.sum_cons, List.sum_nil, List.length_cons, List.length_nil]; omega, ?_⟩
  rw [txt_join]
  refine add_one (S := S) (acc := acc) (w := [110, 97, 109, 101, 32] ++ m) ha (by omega) ((((Sx.new hp).b.trans Sxb.put).trans Sxb.put).of_new hp) fun a' S' h' x' => ?_
  walk_at "s"
  walk_at "s"
  refine knx _ _ (ih n (acc ++ [_]) a' S' cd _ o3 K X hn (by simp only [List.length_append, List.length_cons, List.length_nil]; omega) hg.2 h' fun a2 S2 o2 h2 x2 => q a2 S2 o2 (by rw [h2]; simp only [lnC, List.append_assoc]; rfl) (x'.trans x2))
theorem ll_call {r : Cd} (ih : Ll r) : Ll (.call r) := by
  intro n acc a S cd o2 o3 K X hn ht hg ha q
  simp only [nest] at hn
  simp only [tot] at ht
  simp only [goodC] at hg
  simp only [encC]
  refine forW_step True.intro rfl fun K' knx _ _ _ => ?_
  dsimp only [forBody, ir18]
  walk_at "s"; walk_at "e"
  walk_at "s"; walk_at "e"
  intro p hp
  have ne : a ≠ p := new_ne ha hp
  refine ⟨_, Sto.upd_same, of_eq_true (sz_lt (by decide)), ?_⟩
  show ∃ ls : List (List Nat), _ ∧ _ ∧ _
  refine ⟨[[99, 97, 108, 108]], by unfold rd; rw [Sto.upd_same]; rfl, by decide, ?_⟩
  rw [txt_join]
  refine add_one (S := S) (acc := acc) (w := [99, 97, 108, 108]) ha (by omega) (((Sx.new hp).b.trans Sxb.put).of_new hp) fun a' S' h' x' => ?_
  walk_at "s"
  walk_at "s"
  refine knx _ _ (ih n (acc ++ [_]) a' S' cd _ o3 K X hn (by simp only [List.length_append, List.length_cons, List.length_nil]; omega) hg h' fun a2 S2 o2 h2 x2 => q a2 S2 o2 (by rw [h2]; simp only [lnC, List.append_assoc]; rfl) (x'.trans x2))
theorem ll_close {b r : Cd} (ihb : Ll b) (ih : Ll r) : Ll (.close b r) := by
  intro n acc a S cd o2 o3 K X hn ht hg ha q
  simp only [nest] at hn
  simp only [tot] at ht
  simp only [goodC, Bool.and_eq_true] at hg
  obtain ⟨n, rfl⟩ : ∃ k, n = k + 1 := ⟨n - 1, by omega⟩
  have lb := lnC_len b
  simp only [encC]
  refine forW_step True.intro rfl fun K' knx _ _ _ => ?_
  dsimp only [forBody, ir18]
  walk_at "s"; walk_at "e"
  walk_at "s"; walk_at "e"
  refine add_one (S := S) (acc := acc) (w := [99, 108, 111, 115, 101]) ha (by omega) (Sx.refl S) fun a1 S1 h1 x1 => ?_
  refine ll_of ihb (n := n) (by omega) (by omega) hg.1 fun a2 S2 h2 x2 => ?_
  have h12 := x2 _ _ h1
  refine binW_ll (xs := (acc ++ [[99, 108, 111, 115, 101]]).map .str) (ys := (lnC b).map .str) h12 h2 (by simp only [List.length_map, List.length_append, List.length_cons, List.length_nil]; omega) fun p3 hp3 => ?_
  refine add_one (acc := acc ++ [[99, 108, 111, 115, 101]] ++ lnC b) (w := [101, 110, 100]) (by rw [Sto.upd_same]; simp) (by simp only [List.length_append, List.length_cons, List.length_nil]; omega) (Sx.refl _) fun a' S' h' x' => ?_
  walk_at "s"
  walk_at "s"
  refine knx _ _ (ih (n + 1) (acc ++ [[99, 108, 111, 115, 101]] ++ lnC b ++ [[101, 110, 100]]) a' S' cd _ o3 K X (by omega) (by simp only [List.length_append, List.length_cons, List.length_nil]; omega) hg.2 h' fun a2 S2 o2 h2 x2' => q a2 S2 o2 (by rw [h2]; simp only [lnC, List.append_assoc]; rfl) ((((x1.trans x2).trans (Sx.new hp3)).trans x').trans x2'))
theorem ll_all : ∀ c, Ll c
  | .nil => ll_nil
  | .get _ r => ll_get (ll_all r)
  | .nm _ r => ll_nm (ll_all r)
  | .call r => ll_call (ll_all r)
  | .close b r => ll_close (ll_all b) (ll_all r)
theorem w_llines {c : Cd} {n : Nat} {S : Sto} {Q : QD} {E : QX} (hn : nest c ≤ n) (ht : 2 * tot c ≤ 1000) (hg : goodC c = true) (q : ∀ a S', S' a = some (.lst ((lnC c).map .str)) → Sx S S' → Q (.ref a) S') : (lvl prg (n + 1)).fn 18 [.tup (encC c)] S Q E := ll_of (ll_all c) hn ht hg q
/-! lines_of -/
theorem bm_ext {a b : Addr} {ds es : List D} {S : Sto} {Q : QD} (h : S a = some (.lst ds)) (h2 : S b = some (.lst es)) (hz : ds.length + es.length ≤ 1000000) (q : Q .non (S.upd a (.lst (ds ++ es)))) : bmW .extend (.ref a) [.ref b] S Q := by
  unfold bmW
  dsimp only
  rw [h]
  exact ⟨es, h2, of_eq_true (sz_le hz), q⟩
def Lo (c : Cd) : Prop := ∀ (n : Nat) (acc : List (List Nat)) (a : Addr) (S : Sto) (cd : D) (o2 : Option D) (K : En) (X : EX), nest c ≤ n → acc.length + 2 * tot c ≤ 1000 → goodC c = true → S a = some (.lst (acc.map .str)) →
  (∀ S' o2', S' a = some (.lst ((acc ++ lnC c).map .str)) → Sxb a S S' → K.nx [some cd, some (.ref a), o2'] S') →
  forW (fun _ => True) (.nm 2) (fun K σ S => wpSs (lvl prg n) (forBody ir6) K X σ S) K (encC c) [some cd, some (.ref a), o2] S
theorem lo_of {c : Cd} (h : Lo c) {n : Nat} {S : Sto} {Q : QD} {E : QX} (hn : nest c ≤ n) (ht : 2 * tot c ≤ 1000) (hg : goodC c = true) (q : ∀ a S', S' a = some (.lst ((lnC c).map .str)) → Sx S S' → Q (.ref a) S') : (lvl prg (n + 1)).fn 6 [.tup (encC c)] S Q E := by
  refine ⟨rfl, ?_⟩
  have tl : ∀ G K X σ S', wpSs G ir6 K X σ S' = wpSs G (.cons (.set 1 (.lst .nil)) (.cons (.for_ (.nm 2) (.sq (.var 0)) (forBody ir6)) (.cons (.ret (.var 1)) .nil))) K X σ S' := fun _ _ _ _ _ => rfl
  rw [tl]
  walk_at "s"; walk_at "e"
  intro p hp
  walk_at "s"; walk_at "e"
  refine h n [] p _ _ _ _ _ hn (by simp only [List.length_nil]; omega) hg Sto.upd_same fun S' o2' h' x' => ?_
  dsimp only
  walk_at "s"; walk_at "e"
  exact q p S' h' (((Sx.new hp).b.trans x').of_new hp)
theorem app_one {a : Addr} {acc : List (List Nat)} {w : List Nat} {S : Sto} {Q : QD} (ha : S a = some (.lst (acc.map .str))) (hl : acc.length ≤ 999999) (q : ∀ S', S' a = some (.lst ((acc ++ [w]).map .str)) → Sxb a S S' → Q .non S') : bmW .append (.ref a) [.str w] S Q :=
  bm_app ha (of_eq_true (sz_lt (by rw [List.length_map]; omega))) (q _ (by rw [Sto.upd_same]; simp) Sxb.put)
theorem lo_nil : Lo .nil := fun n acc a S cd o2 K X hn ht hg ha q => ⟨True.intro, q S o2 (by simpa [lnC] using ha) (Sxb.refl a S)⟩
theorem lo_get {m : Nat} {r : Cd} (ih : Lo r) : Lo (.get m r) := by
  intro n acc a S cd o2 K X hn ht hg ha q
  simp only [nest] at hn
  simp only [tot] at ht
  simp only [goodC, Bool.and_eq_true, decide_eq_true_eq] at hg
  have hm := istr_small m (by omega)
  simp only [encC]
  refine forW_step True.intro rfl fun K' knx _ _ _ => ?_
  dsimp only [forBody, ir6]
  walk_at "s"; walk_at "e"
  walk_at "s"; walk_at "e"
  refine ⟨⟨_, ha⟩, ?_, of_eq_true (sz_le (by omega)), ?_⟩
  · have : ((m : Int)).natAbs.log2 ≤ m := by rw [Int.natAbs_natCast]; exact Nat.log2_le_self m
    omega
  refine app_one ha (by omega) fun S' h' x' => ?_
  walk_at "s"
  walk_at "s"
  refine knx _ _ (ih n (acc ++ [_]) a S' cd _ K X hn (by simp only [List.length_append, List.length_cons, List.length_nil]; omega) hg.2 h' fun S2 o2 h2 x2 => q S2 o2 (by rw [h2]; simp only [lnC, List.append_assoc]; rfl) (x'.trans x2))
theorem lo_nm {m : List Nat} {r : Cd} (ih : Lo r) : Lo (.nm m r) := by
  intro n acc a S cd o2 K X hn ht hg ha q
  simp only [nest] at hn
  simp only [tot] at ht
  simp only [goodC, Bool.and_eq_true, decide_eq_true_eq] at hg
  have hm := name12 hg.1
  simp only [encC]
  refine forW_step True.intro rfl fun K' knx _ _ _ => ?_
  dsimp only [forBody, ir6]
  walk_at "s"; walk_at "e"
  walk_at "s"; walk_at "e"
  walk_at "s"; walk_at "e"
  refine ⟨⟨_, ha⟩, of_eq_true (sz_le (by omega)), ?_⟩
  refine app_one ha (by omega) fun S' h' x' => ?_
  walk_at "s"
  walk_at "s"
  walk_at "s"
  refine knx _ _ (ih n (acc ++ [_]) a S' cd _ K X hn (by simp only [List.length_append, List.length_cons, List.length_nil]; omega) hg.2 h' fun S2 o2 h2 x2 => q S2 o2 (by rw [h2]; simp only [lnC, List.append_assoc]; rfl) (x'.trans x2))
theorem lo_call {r : Cd} (ih : Lo r) : Lo (.call r) := by
  intro n acc a S cd o2 K X hn ht hg ha q
  simp only [nest] at hn
  simp only [tot] at ht
  simp only [goodC] at hg
  simp only [encC]
  refine forW_step True.intro rfl fun K' knx _ _ _ => ?_
  dsimp only [forBody, ir6]
  walk_at "s"; walk_at "e"
  walk_at "s"; walk_at "e"
  walk_at "s"; walk_at "e"
  walk_at "s"; walk_at "e"
  refine ⟨⟨_, ha⟩, ?_⟩
  refine app_one ha (by omega) fun S' h' x' => ?_
  walk_at "s"
  walk_at "s"
  walk_at "s"
  walk_at "s"
  refine knx _ _ (ih n (acc ++ [_]) a S' cd _ K X hn (by simp only [List.length_append, List.length_cons, List.length_nil]; omega) hg h' fun S2 o2 h2 x2 => q S2 o2 (by rw [h2]; simp only [lnC, List.append_assoc]; rfl) (x'.trans x2))
theorem lo_close {b r : Cd} (ihb : Lo b) (ih : Lo r) : Lo (.close b r) := by
  intro n acc a S cd o2 K X hn ht hg ha q
  simp only [nest] at hn
  simp only [tot] at ht
  simp only [goodC, Bool.and_eq_true] at hg
  obtain ⟨n, rfl⟩ : ∃ k, n = k + 1 := ⟨n - 1, by omega⟩
  have lb := lnC_len b
  simp only [encC]
  refine forW_step True.intro rfl fun K' knx _ _ _ => ?_
  dsimp only [forBody, ir6]
  walk_at "r"
  refine ⟨⟨_, ha⟩, ?_⟩
  refine app_one ha (by omega) fun S1 h1 x1 => ?_
  walk_at "s"; walk_at "e"
  refine ⟨⟨_, h1⟩, ?_⟩
  refine lo_of ihb (n := n) (by omega) (by omega) hg.1 fun a2 S2 h2 x2 => ?_
  have h12 := x2 _ _ h1
  refine bm_ext h12 h2 (by simp only [List.length_map, List.length_append, List.length_cons, List.length_nil]; omega) ?_
  rw [← List.map_append]
  walk_at "s"; walk_at "e"
  refine ⟨⟨_, Sto.upd_same⟩, ?_⟩
  refine app_one Sto.upd_same (by simp only [List.length_append, List.length_cons, List.length_nil]; omega) fun S3 h3 x3 => ?_
  walk_at "s"
  walk_at "s"
  walk_at "s"
  walk_at "s"
  refine knx _ _ (ih (n + 1) (acc ++ [[99, 108, 111, 115, 101]] ++ lnC b ++ [[101, 110, 100]]) a S3 cd _ K X (by omega) (by simp only [List.length_append, List.length_cons, List.length_nil]; omega) hg.2 h3 fun S4 o2 h4 x4 => q S4 o2 (by rw [h4]; simp only [lnC, List.append_assoc]; rfl) ((((x1.trans x2.b).trans Sxb.put).trans x3).trans x4))
theorem lo_all : ∀ c, Lo c
  | .nil => lo_nil
  | .get _ r => lo_get (lo_all r)
  | .nm _ r => lo_nm (lo_all r)
  | .call r => lo_call (lo_all r)
  | .close b r => lo_close (lo_all b) (lo_all r)
theorem w_lines {c : Cd} {n : Nat} {S : Sto} {Q : QD} {E : QX} (hn : nest c ≤ n) (ht : 2 * tot c ≤ 1000) (hg : goodC c = true) (q : ∀ a S', S' a = some (.lst ((lnC c).map .str)) → Sx S S' → Q (.ref a) S') : (lvl prg (n + 1)).fn 6 [.tup (encC c)] S Q E := lo_of (lo_all c) hn ht hg q
end K49
end Mini
end L2
namespace L2
namespace Mini
namespace K49
open PySem PySem.Spec PyProof.Rows
local macro_rules | `(tactic| walk_at "s") => `(tactic| first | with_reducible refine st_set ?_ | with_reducible refine st_ife ?_ | with_reducible refine st_ret ?_ | with_reducible refine st_ex ?_ | with_reducible refine st_unp ?_ | with_reducible refine st_unpl ?_ | with_reducible refine st_unpa ?_ | with_reducible refine st_aug ?_ | with_reducible refine st_for ?_ | with_reducible refine st_whl ?_ | with_reducible refine st_nil ?_ | with_reducible refine st_setix ?_ | with_reducible refine st_raise ?_ | with_reducible refine st_try ?_ | with_reducible refine st_setat ?_ | with_reducible refine st_augat ?_ | with_reducible refine st_pass ?_ | with_reducible refine st_brk ?_ | with_reducible refine st_cnt ?_)
local macro_rules | `(tactic| walk_at "e") => `(tactic| try simp only [fget, fput, eq_self, Nat.reduceEqDiff, and_true, Int.reduceBEq, wpC, goW, List.map_cons, List.map_nil, deq, deqs, List.any_cons, List.any_nil, slW, cut_1, Int.cast_ofNat_Int, Int.natCast_zero, Int.natCast_one, Int.reduceLE, Int.reduceLT, Int.reduceNeg, Int.reduceAdd, Int.reduceSub, decide_true, decide_false, inW_chr, List.contains_cons, List.contains_nil, Bool.or_true, Bool.true_or, Bool.or_false, Bool.false_or, gd, gds, List.all_cons, List.all_nil, Nat.reduceLT, List.zip_cons_cons, List.zip_nil_left, List.foldl_cons, List.foldl_nil, wpT, wpE, wpEs, wpO, wpI, env0, Env.get, List.map, List.length, List.replicate, List.getElem?_cons_zero, List.getElem?_cons_succ, List.nil_append, List.cons_append, List.append_nil, tru, isiW, cmpW, List.set, Nat.reduceSub, Nat.reduceAdd, Bool.not_true, Bool.not_false, Bool.false_eq_true, if_true, if_false, reduceIte, ixW, biW, bmTy, augW, tgW, newW, wpPs, dmerge, sqW_t, sqW_s, binW_ai, binW_si, binW_at, binW_as, binW_mi, binW_di, binW_mo, atI_0, atI_1, atI_2, ex_some, eqW_str, eqW_int, sz0, sz1, sz2, sz3, sz4, sz5, sz6, sz7, sz8, sz9, sz10, sz11, sz12, sz13, sz14, true_and, Bool.false_xor, Bool.true_xor, lb_cc, lb_nc, lb_cn, lb_nn, Nat.reduceBEq, Bool.and_true, Bool.true_and, Bool.false_and, Bool.and_false, beq_self_eq_true, binW_ms])
local macro_rules | `(tactic| walk_at "r") => `(tactic| ((try walk_at "s"); walk_at "e"; repeat (walk_at "s"; walk_at "e")))
local macro_rules | `(tactic| walk_at "w") => `(tactic| simp only [wpSs, wpS, wpT, wpE, wpEs, wpO, wpI, env0, Env.get, List.map, List.length, List.replicate, List.getElem?_cons_zero, List.getElem?_cons_succ, List.nil_append, List.cons_append, List.append_nil, tru, isiW, cmpW, List.set, Nat.reduceSub, Nat.reduceAdd, Bool.not_true, Bool.not_false, Bool.false_eq_true, if_true, if_false, reduceIte, ixW, biW, bmTy, sqW_t, sqW_s, binW_ai, binW_si, binW_at, binW_as, binW_mi, binW_di, binW_mo, atI_0, atI_1, atI_2, ex_some, eqW_str, eqW_int, sz0, sz1, sz2, sz3, sz4, sz5, sz6, sz7, sz11, true_and, Bool.false_xor, Bool.true_xor, lb_cc, lb_nc, lb_cn, lb_nn, Nat.reduceBEq, Bool.and_true, Bool.true_and, Bool.false_and, Bool.and_false, beq_self_eq_true])
local macro_rules | `(tactic| walk_at "q") => `(tactic| refine eqW_of rfl rfl (Nat.le_of_ble_eq_true rfl) ?_)
local macro_rules | `(tactic| walk_at "g") => `(tactic| (walk_at "r"; repeat (walk_at "q"; walk_at "r")))
/-! ### numbers in texts -/
def val (w : List Nat) : Nat := w.foldl (fun a c => a * 10 + (c - 48)) 0
theorem int1 : ∀ a, a < 10 → PySem.intText? (st [48 + a]) = some ((val [48 + a] : Nat) : Int) := by decide +kernel
theorem int2 : ∀ a, a < 10 → ∀ b, b < 10 → PySem.intText? (st [48 + a, 48 + b]) = some ((val [48 + a, 48 + b] : Nat) : Int) := by decide +kernel
theorem int3 : ∀ a, a < 10 → ∀ b, b < 10 → ∀ c, c < 10 → PySem.intText? (st [48 + a, 48 + b, 48 + c]) = some ((val [48 + a, 48 + b, 48 + c] : Nat) : Int) := by decide +kernel
theorem dig_eq {a : Nat} (h : dig a = true) : ∃ d, d < 10 ∧ a = 48 + d := by
  simp only [dig, Bool.and_eq_true, decide_eq_true_eq] at h
  exact ⟨a - 48, by omega, by omega⟩
theorem int_of {w : List Nat} (h1 : 1 ≤ w.length) (h2 : w.length ≤ 3) (hd : w.all dig = true) : PySem.intText? (st w) = some ((val w : Nat) : Int) := by
  rcases w with _ | ⟨a, _ | ⟨b, _ | ⟨c, _ | ⟨d, w⟩⟩⟩⟩
  · simp at h1
  · simp only [List.all_cons, List.all_nil, Bool.and_true] at hd
    obtain ⟨d, h, rfl⟩ := dig_eq hd
    exact int1 d h
  · simp only [List.all_cons, List.all_nil, Bool.and_true, Bool.and_eq_true] at hd
    obtain ⟨d, h, rfl⟩ := dig_eq hd.1
    obtain ⟨e, g, rfl⟩ := dig_eq hd.2
    exact int2 d h e g
  · simp only [List.all_cons, List.all_nil, Bool.and_true, Bool.and_eq_true] at hd
    obtain ⟨d, h, rfl⟩ := dig_eq hd.1
    obtain ⟨e, g, rfl⟩ := dig_eq hd.2.1
    obtain ⟨f, k, rfl⟩ := dig_eq hd.2.2
    exact int3 d h e g f k
  · simp only [List.length_cons] at h2; omega
/-- the number of a word, if it is one -/
def numP (w : List Nat) : Option Nat :=
  if w.length = 0 ∨ 3 < w.length ∨ w.all dig = false then none
  else if 1 < w.length ∧ w.headD 0 = 48 then none
  else if 400 < val w then none else some (val w)
theorem bls_map : ∀ l : List Bool, blsOf (l.map D.bl) = some l
  | [] => rfl
  | b :: l => by show (blsOf (l.map D.bl)).map (b :: ·) = _; rw [bls_map l]; rfl
abbrev noD : Option Nat → D
  | some n => .int (n : Int)
  | none => .non
theorem w_numberin {w : List Nat} {n : Nat} {S : Sto} {Q : QD} {E : QX} (hg : w.all (fun c => decide (c < 0x110000)) = true) (hz : w.length ≤ 1000) (q : ∀ S', Sx S S' → Q (noD (numP w)) S') : (lvl prg (n + 1)).fn 8 [.str w] S Q E := by
  refine ⟨rfl, ?_⟩
  unfold ir8
  walk_at "s"; walk_at "e"
  cases hw : (w == ([] : List Nat)) with
  | true =>
    have hw : w = [] := by simpa using hw
    subst hw
    walk_at "r"
    exact q S (Sx.refl S)
  | false =>
    have hw : w ≠ [] := by simpa using hw
    have hp0 : 0 < w.length := List.length_pos_iff.mpr hw
    walk_at "e"
    refine ⟨of_eq_true (sz_le (by omega)), ?_⟩
    cases h3 : decide ((3 : Int) < (w.length : Int)) with
    | true =>
      have h3 := of_decide_eq_true h3
      walk_at "r"
      have : numP w = none := by unfold numP; rw [if_pos (by omega)]
      rw [this] at q
      exact q S (Sx.refl S)
    | false =>
      have h3 := of_decide_eq_false h3
      walk_at "e"
      refine ⟨of_eq_true (sz_le (by omega)), fun p hp => ?_⟩
      refine goW_map (p := p) (N := 1000) (fun d => match d with | .str [c] => some (.bl (dig c)) | _ => none) (fun _ _ _ _ => True.intro) _ [] _ (by rw [List.length_map]; simp only [List.length_nil]; omega) (fun d hd S1 acc K x1 h1 hn k => ?_) Sto.upd_same True.intro fun S2 x2 h2 _ => ?_
      · obtain ⟨c, _, rfl⟩ := List.mem_map.mp hd
        walk_at "e"
        rw [dig_or c]
        exact ⟨acc, h1, of_eq_true (sz_lt (by omega)), k (S1.upd p (.lst (acc ++ [.bl (dig c)]))) Sxb.put (by rw [Sto.upd_same]; rfl)⟩
      · have e6 : ∀ r : List Nat, (r.map fun c => D.str [c]).filterMap (fun d => match d with | .str [c] => some (D.bl (dig c)) | _ => none) = (r.map dig).map D.bl := fun r => by
          induction r with
          | nil => rfl
          | cons c r ih => simp [ih]
        rw [List.nil_append, e6] at h2
        have xx : Sx S S2 := ((Sx.new hp).b.trans x2).of_new hp
        have q := q S2 xx
        refine ⟨_, _, rd_lst h2, bls_map _, ?_⟩
        have e7 : (w.map dig).all id = w.all dig := by rw [List.all_map]; rfl
        rw [e7]
        cases hd : w.all dig with
        | false =>
          walk_at "r"
          have : numP w = none := by unfold numP; rw [if_pos (.inr (.inr hd))]
          rw [this] at q
          exact q
        | true =>
          have hi := int_of (w := w) (by omega) (by omega) hd
          have en : numP w = if 1 < w.length ∧ w.headD 0 = 48 then none else if 400 < val w then none else some (val w) := by
            unfold numP
            rw [if_neg]
            rintro (h | h | h)
            · omega
            · omega
            · rw [hd] at h; cases h
          rw [en] at q
          have fin : ¬ (1 < w.length ∧ w.headD 0 = 48) → wpSs (lvl prg n) (dropS 2 ir8) { nx := fun _ S' => Q .non S', rt := Q } (fun x _ S' => E x S') [some (.str w), none] S2 := fun hn => by
            rw [if_neg hn] at q
            dsimp only [dropS, ir8]
            walk_at "s"; walk_at "e"
            refine ⟨_, hi, by omega, ?_⟩
            cases h4 : decide ((400 : Int) < ((val w : Nat) : Int)) with
            | true =>
              have h4 := of_decide_eq_true h4
              rw [if_pos (by omega)] at q
              walk_at "r"
              exact q
            | false =>
              have h4 := of_decide_eq_false h4
              rw [if_neg (by omega)] at q
              walk_at "r"
              exact ⟨_, hi, by omega, q⟩
          dsimp only [dropS, ir8] at fin
          walk_at "e"
          walk_at "s"
          walk_at "s"; walk_at "e"
          refine ⟨of_eq_true (sz_le (by omega)), ?_⟩
          cases h1 : decide ((1 : Int) < (w.length : Int)) with
          | false =>
            have h1 := of_decide_eq_false h1
            walk_at "e"
            walk_at "s"
            exact fin (by omega)
          | true =>
            have h1 := of_decide_eq_true h1
            walk_at "e"
            obtain ⟨a, r, rfl⟩ : ∃ a r, w = a :: r := by
              cases w with
              | nil => exact absurd rfl hw
              | cons a r => exact ⟨a, r, rfl⟩
            refine ⟨of_eq_true (sz_le (by omega)), a, atI_0, ?_⟩
            cases h48 : (a == 48) with
            | true =>
              have h48 : a = 48 := eq_of_beq h48
              subst h48
              rw [if_pos ⟨by omega, rfl⟩] at q
              walk_at "r"
              exact q
            | false =>
              have h48 : a ≠ 48 := beq_eq_false_iff_ne.mp h48
              have fin := fin fun h => h48 h.2
              walk_at "e"
              walk_at "s"
              exact fin
end K49
end Mini
end L2
namespace L2
namespace Mini
namespace K49
open PySem PySem.Spec PyProof.Rows
local macro_rules | `(tactic| walk_at "s") => `(tactic| first | with_reducible refine st_set ?_ | with_reducible refine st_ife ?_ | with_reducible refine st_ret ?_ | with_reducible refine st_ex ?_ | with_reducible refine st_unp ?_ | with_reducible refine st_unpl ?_ | with_reducible refine st_unpa ?_ | with_reducible refine st_aug ?_ | with_reducible refine st_for ?_ | with_reducible refine st_whl ?_ | with_reducible refine st_nil ?_ | with_reducible refine st_setix ?_ | with_reducible refine st_raise ?_ | with_reducible refine st_try ?_ | with_reducible refine st_setat ?_ | with_reducible refine st_augat ?_ | with_reducible refine st_pass ?_ | with_reducible refine st_brk ?_ | with_reducible refine st_cnt ?_)
local macro_rules | `(tactic| walk_at "e") => `(tactic| try simp only [fget, fput, eq_self, Nat.reduceEqDiff, and_true, Int.reduceBEq, wpC, goW, List.map_cons, List.map_nil, deq, deqs, List.any_cons, List.any_nil, slW, cut_1, Int.cast_ofNat_Int, Int.natCast_zero, Int.natCast_one, Int.reduceLE, Int.reduceLT, Int.reduceNeg, Int.reduceAdd, Int.reduceSub, decide_true, decide_false, inW_chr, List.contains_cons, List.contains_nil, Bool.or_true, Bool.true_or, Bool.or_false, Bool.false_or, gd, gds, List.all_cons, List.all_nil, Nat.reduceLT, List.zip_cons_cons, List.zip_nil_left, List.foldl_cons, List.foldl_nil, wpT, wpE, wpEs, wpO, wpI, env0, Env.get, List.map, List.length, List.replicate, List.getElem?_cons_zero, List.getElem?_cons_succ, List.nil_append, List.cons_append, List.append_nil, tru, isiW, cmpW, List.set, Nat.reduceSub, Nat.reduceAdd, Bool.not_true, Bool.not_false, Bool.false_eq_true, if_true, if_false, reduceIte, ixW, biW, bmTy, augW, tgW, newW, wpPs, dmerge, sqW_t, sqW_s, binW_ai, binW_si, binW_at, binW_as, binW_mi, binW_di, binW_mo, atI_0, atI_1, atI_2, ex_some, eqW_str, eqW_int, sz0, sz1, sz2, sz3, sz4, sz5, sz6, sz7, sz8, sz9, sz10, sz11, sz12, sz13, sz14, true_and, Bool.false_xor, Bool.true_xor, lb_cc, lb_nc, lb_cn, lb_nn, Nat.reduceBEq, Bool.and_true, Bool.true_and, Bool.false_and, Bool.and_false, beq_self_eq_true, binW_ms])
local macro_rules | `(tactic| walk_at "r") => `(tactic| ((try walk_at "s"); walk_at "e"; repeat (walk_at "s"; walk_at "e")))
local macro_rules | `(tactic| walk_at "w") => `(tactic| simp only [wpSs, wpS, wpT, wpE, wpEs, wpO, wpI, env0, Env.get, List.map, List.length, List.replicate, List.getElem?_cons_zero, List.getElem?_cons_succ, List.nil_append, List.cons_append, List.append_nil, tru, isiW, cmpW, List.set, Nat.reduceSub, Nat.reduceAdd, Bool.not_true, Bool.not_false, Bool.false_eq_true, if_true, if_false, reduceIte, ixW, biW, bmTy, sqW_t, sqW_s, binW_ai, binW_si, binW_at, binW_as, binW_mi, binW_di, binW_mo, atI_0, atI_1, atI_2, ex_some, eqW_str, eqW_int, sz0, sz1, sz2, sz3, sz4, sz5, sz6, sz7, sz11, true_and, Bool.false_xor, Bool.true_xor, lb_cc, lb_nc, lb_cn, lb_nn, Nat.reduceBEq, Bool.and_true, Bool.true_and, Bool.false_and, Bool.and_false, beq_self_eq_true])
local macro_rules | `(tactic| walk_at "q") => `(tactic| refine eqW_of rfl rfl (Nat.le_of_ble_eq_true rfl) ?_)
local macro_rules | `(tactic| walk_at "g") => `(tactic| (walk_at "r"; repeat (walk_at "q"; walk_at "r")))
/-! ### the reader: rows of orders, in plain -/
abbrev lCall : List Nat := [99, 97, 108, 108]
abbrev lClose : List Nat := [99, 108, 111, 115, 101]
abbrev lEnd : List Nat := [101, 110, 100]
/-- an order that a line tells -/
def ordP (l : List Nat) : Option Od :=
  if l.take 4 = [103, 101, 116, 32] then (numP (l.drop 4)).map Od.get
  else if l.take 5 = [110, 97, 109, 101, 32] ∧ nameB (l.drop 5) = true then some (.nm (l.drop 5)) else none
/-- a row that is open: its orders, what they leave -/
abbrev Row := List Od × Int
/-- one line: the last row is the open one -/
def rdL (l : List Nat) (st : List Row) : Option (List Row) := match st.reverse with
  | [] => none
  | (L, m) :: r =>
    if l = lCall then (if m < 2 then none else some (r.reverse ++ [(L ++ [.call], m - 1)]))
    else if l = lClose then some (st ++ [([], 0)])
    else if l = lEnd then (match r with
      | [] => none
      | (L', m') :: r' => if m ≠ 1 then none else some (r'.reverse ++ [(L' ++ [.close (ofL L)], m' + 1)]))
    else match ordP l with
      | none => none
      | some o => some (r.reverse ++ [(L ++ [o], m + 1)])
theorem rdL_last {l : List Nat} {r : List Row} {L : List Od} {m : Int} : rdL l (r ++ [(L, m)]) =
    if l = lCall then (if m < 2 then none else some (r ++ [(L ++ [.call], m - 1)]))
    else if l = lClose then some (r ++ [(L, m)] ++ [([], 0)])
    else if l = lEnd then (match r.reverse with
      | [] => none
      | (L', m') :: r' => if m ≠ 1 then none else some (r'.reverse ++ [(L' ++ [.close (ofL L)], m' + 1)]))
    else match ordP l with
      | none => none
      | some o => some (r ++ [(L ++ [o], m + 1)]) := by
  unfold rdL
  rw [List.reverse_append]
  simp only [List.reverse_cons, List.reverse_nil, List.nil_append, List.cons_append, List.reverse_reverse]
/-! the reader in the store -/
structure Fr where
  x : Addr
  l : Addr
  L : List Od
  m : Int
def Fr.row (f : Fr) : Row := (f.L, f.m)
structure FrAt (f : Fr) (S : Sto) : Prop where
  ob : S f.x = some (.ins 0 [(3, .ref f.l), (4, .int f.m)])
  os : S f.l = some (.lst (f.L.map encO))
/-- all that the reader owns: new since S0, each but once -/
structure Rdg (S0 : Sto) (o ra : Addr) (fs : List Fr) (S : Sto) : Prop where
  sx : Sx S0 S
  ob : S o = some (.ins 1 [(5, .ref ra)])
  rs : S ra = some (.lst (fs.map fun f => .ref f.x))
  at_ : ∀ f ∈ fs, FrAt f S
  nw : ∀ a ∈ o :: ra :: fs.flatMap (fun f => [f.x, f.l]), S0 a = none
  nd : (o :: ra :: fs.flatMap (fun f => [f.x, f.l])).Nodup
theorem Rdg.top {S0 : Sto} {o ra : Addr} {gs : List Fr} {f : Fr} {S : Sto} (h : Rdg S0 o ra (gs ++ [f]) S) : FrAt f S := h.at_ f (by simp)
/-- the open row gets other orders -/
theorem Rdg.put {S0 : Sto} {o ra : Addr} {gs : List Fr} {f : Fr} {S : Sto} {L : List Od} {m : Int} (h : Rdg S0 o ra (gs ++ [f]) S) : Rdg S0 o ra (gs ++ [⟨f.x, f.l, L, m⟩]) ((S.upd f.l (.lst (L.map encO))).upd f.x (.ins 0 [(3, .ref f.l), (4, .int m)])) := by
  have nd := h.nd
  have nw := h.nw
  simp only [List.flatMap_append, List.flatMap_cons, List.flatMap_nil, List.append_nil] at nd nw
  have nx : S0 f.x = none := nw f.x (by simp)
  have nl : S0 f.l = none := nw f.l (by simp)
  have hn : ∀ a, a ∈ o :: ra :: gs.flatMap (fun f => [f.x, f.l]) → a ≠ f.x ∧ a ≠ f.l := fun a ha => by
    rw [← List.cons_append, ← List.cons_append] at nd
    have := (List.nodup_append.mp nd).2.2 a ha
    exact ⟨this f.x (by simp), this f.l (by simp)⟩
  have hxl : f.x ≠ f.l := by
    rw [← List.cons_append, ← List.cons_append] at nd
    have := (List.nodup_append.mp nd).2.1
    simp only [List.nodup_cons, List.mem_singleton] at this
    exact this.1
  have keep : ∀ a, a ∈ o :: ra :: gs.flatMap (fun f => [f.x, f.l]) → ((S.upd f.l (.lst (L.map encO))).upd f.x (.ins 0 [(3, .ref f.l), (4, .int m)])) a = S a := fun a ha => by
    rw [Sto.upd_ne (hn a ha).1, Sto.upd_ne (hn a ha).2]
  refine ⟨fun a c hc => ?_, ?_, ?_, fun g hg => ?_, ?_, ?_⟩
  · rw [Sto.upd_ne (new_ne hc nx), Sto.upd_ne (new_ne hc nl)]
    exact h.sx a c hc
  · rw [keep o (by simp)]; exact h.ob
  · rw [keep ra (by simp), h.rs]; simp
  · rcases List.mem_append.mp hg with hg | hg
    · have hh := h.at_ g (List.mem_append_left _ hg)
      have m1 : g.x ∈ gs.flatMap (fun f => [f.x, f.l]) := List.mem_flatMap.mpr ⟨g, hg, by simp⟩
      have m2 : g.l ∈ gs.flatMap (fun f => [f.x, f.l]) := List.mem_flatMap.mpr ⟨g, hg, by simp⟩
      exact ⟨by rw [keep g.x (List.mem_cons_of_mem _ (List.mem_cons_of_mem _ m1))]; exact hh.ob, by rw [keep g.l (List.mem_cons_of_mem _ (List.mem_cons_of_mem _ m2))]; exact hh.os⟩
    · rw [List.mem_singleton.mp hg]
      exact ⟨by rw [Sto.upd_same], by show ((S.upd f.l _).upd f.x _) f.l = _; rw [Sto.upd_ne (Ne.symm hxl), Sto.upd_same]⟩
  · simpa using nw
  · simpa using nd
/-- a new row is opened -/
theorem Rdg.open_ {S0 : Sto} {o ra x l : Addr} {fs : List Fr} {S : Sto} (h : Rdg S0 o ra fs S) (hx : S x = none) (hl : S l = none) (hxl : x ≠ l) (c : Cell) :
    Rdg S0 o ra (fs ++ [⟨x, l, [], 0⟩]) ((((S.upd x c).upd l (.lst [])).upd x (.ins 0 [(3, .ref l), (4, .int 0)])).upd ra (.lst ((fs.map fun f => D.ref f.x) ++ [.ref x]))) := by
  have own : ∀ a ∈ o :: ra :: fs.flatMap (fun f => [f.x, f.l]), ∃ c, S a = some c := fun a ha => by
    rcases List.mem_cons.mp ha with rfl | ha
    · exact ⟨_, h.ob⟩
    rcases List.mem_cons.mp ha with rfl | ha
    · exact ⟨_, h.rs⟩
    obtain ⟨f, hf, ha⟩ := List.mem_flatMap.mp ha
    have hh := h.at_ f hf
    simp only [List.mem_cons, List.not_mem_nil, or_false] at ha
    rcases ha with rfl | rfl
    · exact ⟨_, hh.ob⟩
    · exact ⟨_, hh.os⟩
  have ne : ∀ a ∈ o :: ra :: fs.flatMap (fun f => [f.x, f.l]), a ≠ x ∧ a ≠ l := fun a ha => by
    obtain ⟨c, hc⟩ := own a ha
    exact ⟨new_ne hc hx, new_ne hc hl⟩
  have ra_ne : ∀ a ∈ o :: fs.flatMap (fun f => [f.x, f.l]), a ≠ ra := fun a ha e => by
    subst e
    have nd := h.nd
    rw [List.nodup_cons, List.nodup_cons] at nd
    rcases List.mem_cons.mp ha with e | ha
    · exact nd.1 (by rw [← e]; exact List.mem_cons_self)
    · exact nd.2.1 ha
  have s0 : ∀ a, S a = none → S0 a = none := fun a ha => by
    cases e : S0 a with
    | none => rfl
    | some c => rw [h.sx a c e] at ha; cases ha
  have nra := ne ra (by simp)
  have keep : ∀ a ∈ o :: fs.flatMap (fun f => [f.x, f.l]), ((((S.upd x c).upd l (.lst [])).upd x (.ins 0 [(3, .ref l), (4, .int 0)])).upd ra (.lst ((fs.map fun f => D.ref f.x) ++ [.ref x]))) a = S a := fun a ha => by
    have h1 := ne a (by rcases List.mem_cons.mp ha with rfl | ha <;> simp [*])
    rw [Sto.upd_ne (ra_ne a ha), Sto.upd_ne h1.1, Sto.upd_ne h1.2, Sto.upd_ne h1.1]
  refine ⟨fun a d hd => ?_, ?_, ?_, fun g hg => ?_, ?_, ?_⟩
  · have e := h.sx a d hd
    have n1 : a ≠ ra := new_ne hd (h.nw ra (by simp))
    rw [Sto.upd_ne n1, Sto.upd_ne (new_ne e hx), Sto.upd_ne (new_ne e hl), Sto.upd_ne (new_ne e hx)]
    exact e
  · rw [keep o (by simp)]; exact h.ob
  · rw [Sto.upd_same]; simp
  · rcases List.mem_append.mp hg with hg | hg
    · have hh := h.at_ g hg
      have m1 : g.x ∈ fs.flatMap (fun f => [f.x, f.l]) := List.mem_flatMap.mpr ⟨g, hg, by simp⟩
      have m2 : g.l ∈ fs.flatMap (fun f => [f.x, f.l]) := List.mem_flatMap.mpr ⟨g, hg, by simp⟩
      exact ⟨by rw [keep g.x (List.mem_cons_of_mem _ m1)]; exact hh.ob, by rw [keep g.l (List.mem_cons_of_mem _ m2)]; exact hh.os⟩
    · rw [List.mem_singleton.mp hg]
      refine ⟨?_, ?_⟩
      · show (Sto.upd _ ra _) x = _
        rw [Sto.upd_ne (Ne.symm nra.1), Sto.upd_same]
      · show (Sto.upd _ ra _) l = _
        rw [Sto.upd_ne (Ne.symm nra.2), Sto.upd_ne (Ne.symm hxl), Sto.upd_same]
        rfl
  · intro a ha
    rw [List.flatMap_append, ← List.cons_append, ← List.cons_append] at ha
    rcases List.mem_append.mp ha with ha | ha
    · exact h.nw a ha
    · simp only [List.flatMap_cons, List.flatMap_nil, List.append_nil, List.mem_cons, List.not_mem_nil, or_false] at ha
      rcases ha with rfl | rfl
      · exact s0 _ hx
      · exact s0 _ hl
  · rw [List.flatMap_append, ← List.cons_append, ← List.cons_append]
    refine List.nodup_append.mpr ⟨h.nd, by simp [hxl], fun a ha b hb e => ?_⟩
    subst e
    simp only [List.flatMap_cons, List.flatMap_nil, List.append_nil, List.mem_cons, List.not_mem_nil, or_false] at hb
    rcases hb with rfl | rfl
    · exact (ne _ ha).1 rfl
    · exact (ne _ ha).2 rfl
/-- the open row is left -/
theorem Rdg.shut {S0 : Sto} {o ra : Addr} {gs : List Fr} {f : Fr} {S : Sto} (h : Rdg S0 o ra (gs ++ [f]) S) : Rdg S0 o ra gs (S.upd ra (.lst (gs.map fun f => D.ref f.x))) := by
  have nd := h.nd
  have nw := h.nw
  rw [List.flatMap_append] at nd nw
  have ra_ne : ∀ a ∈ o :: gs.flatMap (fun f => [f.x, f.l]), a ≠ ra := fun a ha e => by
    subst e
    rw [List.nodup_cons, List.nodup_cons] at nd
    rcases List.mem_cons.mp ha with e | ha
    · exact nd.1 (by rw [← e]; exact List.mem_cons_self)
    · exact nd.2.1 (List.mem_append_left _ ha)
  refine ⟨fun a c hc => ?_, ?_, Sto.upd_same, fun g hg => ?_, fun a ha => nw a ?_, ?_⟩
  · rw [Sto.upd_ne (new_ne hc (nw ra (by simp)))]; exact h.sx a c hc
  · rw [Sto.upd_ne (ra_ne o (by simp))]; exact h.ob
  · have hh := h.at_ g (List.mem_append_left _ hg)
    have m1 : g.x ∈ gs.flatMap (fun f => [f.x, f.l]) := List.mem_flatMap.mpr ⟨g, hg, by simp⟩
    have m2 : g.l ∈ gs.flatMap (fun f => [f.x, f.l]) := List.mem_flatMap.mpr ⟨g, hg, by simp⟩
    exact ⟨by rw [Sto.upd_ne (ra_ne g.x (List.mem_cons_of_mem _ m1))]; exact hh.ob, by rw [Sto.upd_ne (ra_ne g.l (List.mem_cons_of_mem _ m2))]; exact hh.os⟩
  · rw [← List.cons_append, ← List.cons_append]; exact List.mem_append_left _ ha
  · rw [← List.cons_append, ← List.cons_append] at nd; exact (List.nodup_append.mp nd).1
end K49
end Mini
end L2
namespace L2
namespace Mini
namespace K49
open PySem PySem.Spec PyProof.Rows
local macro_rules | `(tactic| walk_at "s") => `(tactic| first | with_reducible refine st_set ?_ | with_reducible refine st_ife ?_ | with_reducible refine st_ret ?_ | with_reducible refine st_ex ?_ | with_reducible refine st_unp ?_ | with_reducible refine st_unpl ?_ | with_reducible refine st_unpa ?_ | with_reducible refine st_aug ?_ | with_reducible refine st_for ?_ | with_reducible refine st_whl ?_ | with_reducible refine st_nil ?_ | with_reducible refine st_setix ?_ | with_reducible refine st_raise ?_ | with_reducible refine st_try ?_ | with_reducible refine st_setat ?_ | with_reducible refine st_augat ?_ | with_reducible refine st_pass ?_ | with_reducible refine st_brk ?_ | with_reducible refine st_cnt ?_)
local macro_rules | `(tactic| walk_at "e") => `(tactic| try simp only [fget, fput, eq_self, Nat.reduceEqDiff, and_true, Int.reduceBEq, wpC, goW, List.map_cons, List.map_nil, deq, deqs, List.any_cons, List.any_nil, slW, cut_1, Int.cast_ofNat_Int, Int.natCast_zero, Int.natCast_one, Int.reduceLE, Int.reduceLT, Int.reduceNeg, Int.reduceAdd, Int.reduceSub, decide_true, decide_false, inW_chr, List.contains_cons, List.contains_nil, Bool.or_true, Bool.true_or, Bool.or_false, Bool.false_or, gd, gds, List.all_cons, List.all_nil, Nat.reduceLT, List.zip_cons_cons, List.zip_nil_left, List.foldl_cons, List.foldl_nil, wpT, wpE, wpEs, wpO, wpI, env0, Env.get, List.map, List.length, List.replicate, List.getElem?_cons_zero, List.getElem?_cons_succ, List.nil_append, List.cons_append, List.append_nil, tru, isiW, cmpW, List.set, Nat.reduceSub, Nat.reduceAdd, Bool.not_true, Bool.not_false, Bool.false_eq_true, if_true, if_false, reduceIte, ixW, biW, bmTy, augW, tgW, newW, wpPs, dmerge, sqW_t, sqW_s, binW_ai, binW_si, binW_at, binW_as, binW_mi, binW_di, binW_mo, atI_0, atI_1, atI_2, ex_some, eqW_str, eqW_int, sz0, sz1, sz2, sz3, sz4, sz5, sz6, sz7, sz8, sz9, sz10, sz11, sz12, sz13, sz14, true_and, Bool.false_xor, Bool.true_xor, lb_cc, lb_nc, lb_cn, lb_nn, Nat.reduceBEq, Bool.and_true, Bool.true_and, Bool.false_and, Bool.and_false, beq_self_eq_true, binW_ms])
local macro_rules | `(tactic| walk_at "r") => `(tactic| ((try walk_at "s"); walk_at "e"; repeat (walk_at "s"; walk_at "e")))
local macro_rules | `(tactic| walk_at "w") => `(tactic| simp only [wpSs, wpS, wpT, wpE, wpEs, wpO, wpI, env0, Env.get, List.map, List.length, List.replicate, List.getElem?_cons_zero, List.getElem?_cons_succ, List.nil_append, List.cons_append, List.append_nil, tru, isiW, cmpW, List.set, Nat.reduceSub, Nat.reduceAdd, Bool.not_true, Bool.not_false, Bool.false_eq_true, if_true, if_false, reduceIte, ixW, biW, bmTy, sqW_t, sqW_s, binW_ai, binW_si, binW_at, binW_as, binW_mi, binW_di, binW_mo, atI_0, atI_1, atI_2, ex_some, eqW_str, eqW_int, sz0, sz1, sz2, sz3, sz4, sz5, sz6, sz7, sz11, true_and, Bool.false_xor, Bool.true_xor, lb_cc, lb_nc, lb_cn, lb_nn, Nat.reduceBEq, Bool.and_true, Bool.true_and, Bool.false_and, Bool.and_false, beq_self_eq_true])
local macro_rules | `(tactic| walk_at "q") => `(tactic| refine eqW_of rfl rfl (Nat.le_of_ble_eq_true rfl) ?_)
local macro_rules | `(tactic| walk_at "g") => `(tactic| (walk_at "r"; repeat (walk_at "q"; walk_at "r")))
/-! ### the reader's methods -/
theorem upd_twice {S : Sto} {a : Addr} {x y : Cell} : (S.upd a x).upd a y = S.upd a y := by
  funext b
  by_cases e : b = a
  · subst e; rw [Sto.upd_same, Sto.upd_same]
  · rw [Sto.upd_ne e, Sto.upd_ne e, Sto.upd_ne e]
theorem w_openinit {x : Addr} {n : Nat} {S : Sto} {Q : QD} {E : QX} (hx : S x = some (.ins 0 [])) (q : ∀ l, S l = none → Q .non ((S.upd l (.lst [])).upd x (.ins 0 [(3, .ref l), (4, .int 0)]))) : (lvl prg (n + 1)).fn 22 [.ref x] S Q E := by
  refine ⟨rfl, ?_⟩
  unfold ir22
  walk_at "s"; walk_at "e"
  intro l hl
  have ne : x ≠ l := new_ne hx hl
  have hx2 : (S.upd l (.lst [])) x = some (.ins 0 []) := by rw [Sto.upd_ne ne]; exact hx
  simp only [hx2]
  refine ⟨by decide, ?_⟩
  walk_at "e"
  walk_at "s"; walk_at "e"
  simp only [Sto.upd_same]
  refine ⟨by simp, ?_⟩
  walk_at "e"
  rw [upd_twice]
  walk_at "s"
  exact q l hl
theorem w_take {f : Fr} {d : D} {n : Nat} {S : Sto} {Q : QD} {E : QX} (h : FrAt f S) (ne : f.x ≠ f.l) (hl : f.L.length ≤ 5000) (q : Q .non ((S.upd f.l (.lst (f.L.map encO ++ [d]))).upd f.x (.ins 0 [(3, .ref f.l), (4, .int (f.m + 1))]))) : (lvl prg (n + 1)).fn 23 [.ref f.x, d] S Q E := by
  refine ⟨rfl, ?_⟩
  unfold ir23
  walk_at "s"; walk_at "e"
  simp only [h.ob, lvl_mt]
  walk_at "e"
  refine ⟨⟨_, h.os⟩, bm_app h.os (of_eq_true (sz_lt (by rw [List.length_map]; omega))) ?_⟩
  walk_at "s"; walk_at "e"
  have h2 : (S.upd f.l (.lst (f.L.map encO ++ [d]))) f.x = some (.ins 0 [(3, .ref f.l), (4, .int f.m)]) := by rw [Sto.upd_ne ne]; exact h.ob
  simp only [h2]
  walk_at "e"
  exact q
theorem Rdg.xl {S0 : Sto} {o ra : Addr} {gs : List Fr} {f : Fr} {S : Sto} (h : Rdg S0 o ra (gs ++ [f]) S) : f.x ≠ f.l := by
  have nd := h.nd
  rw [List.flatMap_append, ← List.cons_append, ← List.cons_append] at nd
  have := (List.nodup_append.mp nd).2.1
  simp only [List.flatMap_cons, List.flatMap_nil, List.append_nil, List.nodup_cons, List.mem_singleton] at this
  exact this.1
theorem Rdg.on {S0 : Sto} {o ra : Addr} {fs : List Fr} {S S' : Sto} (h : Rdg S0 o ra fs S) (x : Sx S S') : Rdg S0 o ra fs S' :=
  ⟨h.sx.trans x, x _ _ h.ob, x _ _ h.rs, fun f hf => ⟨x _ _ (h.at_ f hf).ob, x _ _ (h.at_ f hf).os⟩, h.nw, h.nd⟩
theorem Rdg.sx2 {S0 : Sto} {o ra : Addr} {gs : List Fr} {f : Fr} {S : Sto} {c1 c2 : Cell} (h : Rdg S0 o ra (gs ++ [f]) S) : Sx S0 ((S.upd f.l c1).upd f.x c2) := fun a c hc => by
  have nx : S0 f.x = none := h.nw f.x (List.mem_cons_of_mem _ (List.mem_cons_of_mem _ (List.mem_flatMap.mpr ⟨f, by simp, by simp⟩)))
  have nl : S0 f.l = none := h.nw f.l (List.mem_cons_of_mem _ (List.mem_cons_of_mem _ (List.mem_flatMap.mpr ⟨f, by simp, by simp⟩)))
  rw [Sto.upd_ne (new_ne hc nx), Sto.upd_ne (new_ne hc nl)]
  exact h.sx a c hc
theorem Rdg.last {S0 : Sto} {o ra : Addr} {gs : List Fr} {f : Fr} {S : Sto} (h : Rdg S0 o ra (gs ++ [f]) S) : S ra = some (.lst (gs.map (fun f => D.ref f.x) ++ [.ref f.x])) := by
  rw [h.rs]; simp
theorem w_ended {S0 : Sto} {o ra : Addr} {gs : List Fr} {f : Fr} {n : Nat} {S : Sto} {Q : QD} {E : QX} (h : Rdg S0 o ra (gs ++ [f]) S) (hl : ∀ g ∈ gs, g.L.length ≤ 5000) (hz : gs.length ≤ 5000)
    (q1 : ∀ gs' g S', gs = gs' ++ [g] → f.m = 1 → Rdg S0 o ra (gs' ++ [⟨g.x, g.l, g.L ++ [.close (ofL f.L)], g.m + 1⟩]) S' → Q (.bl true) S') (q2 : gs = [] ∨ f.m ≠ 1 → Q (.bl false) S) : (lvl prg (n + 2)).fn 26 [.ref o] S Q E := by
  refine ⟨rfl, ?_⟩
  unfold ir26
  walk_at "s"; walk_at "e"
  simp only [h.ob, lvl_mt]
  walk_at "e"
  simp only [h.rs, List.length_map]
  cases h1 : (((gs ++ [f]).length : Int) == 1) with
  | true =>
    have h1 := eq_of_beq h1
    simp only [List.length_append, List.length_cons, List.length_nil] at h1
    walk_at "r"
    exact q2 (.inl (List.length_eq_zero_iff.mp (by omega)))
  | false =>
    have h1 := beq_eq_false_iff_ne.mp h1
    simp only [List.length_append, List.length_cons, List.length_nil] at h1
    walk_at "e"
    refine ⟨.ref f.x, by rw [List.map_append]; exact atI_last, ?_⟩
    simp only [h.top.ob]
    walk_at "e"
    cases hm : (f.m == 1) with
    | false =>
      have hm := beq_eq_false_iff_ne.mp hm
      walk_at "r"
      exact q2 (.inr hm)
    | true =>
      have hm := eq_of_beq hm
      rcases snoc_cases gs with rfl | ⟨gs', g, rfl⟩
      · simp at h1
      have nd := h.nd
      rw [List.nodup_cons, List.nodup_cons] at nd
      have nx : f.x ≠ ra := fun e => nd.2.1 (by rw [← e]; exact List.mem_flatMap.mpr ⟨f, by simp, by simp⟩)
      have nl : f.l ≠ ra := fun e => nd.2.1 (by rw [← e]; exact List.mem_flatMap.mpr ⟨f, by simp, by simp⟩)
      have hs := h.shut
      have gl := hl g (by simp)
      obtain ⟨S1, hS1⟩ : ∃ S1, S1 = S.upd ra (.lst ((gs' ++ [g]).map fun f => D.ref f.x)) := ⟨_, rfl⟩
      have x1 : S1 f.x = some (.ins 0 [(3, .ref f.l), (4, .int f.m)]) := by rw [hS1, Sto.upd_ne nx]; exact h.top.ob
      have l1 : S1 f.l = some (.lst (f.L.map encO)) := by rw [hS1, Sto.upd_ne nl]; exact h.top.os
      rw [← hS1] at hs
      walk_at "e"
      walk_at "s"
      walk_at "s"; walk_at "e"
      simp only [h.ob]
      walk_at "e"
      refine ⟨⟨_, h.rs⟩, bm_pop h.last ?_⟩
      rw [← hS1]
      simp only [x1]
      walk_at "e"
      refine ⟨_, rd_lst l1, ?_⟩
      walk_at "s"; walk_at "e"
      simp only [hs.ob]
      walk_at "e"
      simp only [hs.rs]
      refine ⟨.ref g.x, by rw [List.map_append]; exact atI_last, ?_⟩
      simp only [hs.top.ob, lvl_mt]
      walk_at "e"
      show (lvl prg (n + 1)).fn 23 _ _ _ _
      refine w_take (n := n) hs.top hs.xl gl ?_
      walk_at "r"
      have e : g.L.map encO ++ [D.tup [D.str [99, 108, 111, 115, 101], D.tup (f.L.map encO)]] = (g.L ++ [Od.close (ofL f.L)]).map encO := by
        rw [List.map_append]
        show _ = g.L.map encO ++ [D.tup [sCs, D.tup (encC (ofL f.L))]]
        rw [encC_ofL]
      rw [e]
      exact q1 gs' g _ rfl hm hs.put
/-- one line read -/
theorem w_isread {S0 : Sto} {o ra : Addr} {gs : List Fr} {f : Fr} {l : List Nat} {n : Nat} {S : Sto} {Q : QD} {E : QX} (h : Rdg S0 o ra (gs ++ [f]) S) (hL : ∀ g ∈ gs ++ [f], g.L.length ≤ 5000) (hz : gs.length ≤ 5000) (lg : l.all (fun c => decide (c < 0x110000)) = true) (ll : l.length ≤ 1000)
    (q1 : ∀ fs' S', fs' ≠ [] → rdL l ((gs ++ [f]).map Fr.row) = some (fs'.map Fr.row) → Rdg S0 o ra fs' S' → Q (.bl true) S') (q2 : ∀ S', rdL l ((gs ++ [f]).map Fr.row) = none → Sx S0 S' → Q (.bl false) S') : (lvl prg (n + 3)).fn 25 [.ref o, .str l] S Q E := by
  have fl := hL f (by simp)
  have er : (gs ++ [f]).map Fr.row = gs.map Fr.row ++ [(f.L, f.m)] := by rw [List.map_append]; rfl
  rw [er, rdL_last] at q1 q2
  refine ⟨rfl, ?_⟩
  unfold ir25
  walk_at "s"; walk_at "e"
  simp only [h.ob, lvl_mt]
  walk_at "e"
  simp only [h.rs]
  refine ⟨.ref f.x, by rw [List.map_append]; exact atI_last, ?_⟩
  walk_at "s"; walk_at "e"
  cases c1 : (l == lCall) with
  | true =>
    have c1 := eq_of_beq c1
    rw [if_pos c1] at q1 q2
    walk_at "e"
    walk_at "s"; walk_at "e"
    simp only [h.top.ob]
    walk_at "e"
    refine ⟨⟨_, h.top.os⟩, bm_app h.top.os (of_eq_true (sz_lt (by rw [List.length_map]; omega))) ?_⟩
    have x1 : (S.upd f.l (.lst (f.L.map encO ++ [.tup [.str [99, 97, 108, 108]]]))) f.x = some (.ins 0 [(3, .ref f.l), (4, .int f.m)]) := by rw [Sto.upd_ne h.xl]; exact h.top.ob
    walk_at "s"; walk_at "e"
    simp only [x1]
    walk_at "e"
    walk_at "s"; walk_at "e"
    simp only [Sto.upd_same]
    walk_at "e"
    have hp := h.put (L := f.L ++ [.call]) (m := f.m - 1)
    have e2 : f.L.map encO ++ [D.tup [D.str [99, 97, 108, 108]]] = (f.L ++ [Od.call]).map encO := by rw [List.map_append]; rfl
    rw [e2]
    by_cases hm : f.m < 2
    · rw [decide_eq_false (show ¬ ((0 : Int) < f.m - 1) by omega)]
      exact q2 _ (by rw [if_pos hm]) hp.sx
    · rw [decide_eq_true (show ((0 : Int) < f.m - 1) by omega)]
      exact q1 _ _ (by simp) (by rw [if_neg hm, List.map_append]; rfl) hp
  | false =>
    have c1 := beq_eq_false_iff_ne.mp c1
    rw [if_neg c1] at q1 q2
    walk_at "e"
    walk_at "s"
    walk_at "s"; walk_at "e"
    cases c2 : (l == lClose) with
    | true =>
      have c2 := eq_of_beq c2
      rw [if_pos c2] at q1 q2
      walk_at "e"
      walk_at "s"; walk_at "e"
      simp only [h.ob]
      walk_at "e"
      refine ⟨⟨_, h.rs⟩, fun x hx => ?_⟩
      have hi : ∀ args S Q E, (lvl prg (n + 2)).ini 0 args S Q E = (lvl prg (n + 1)).fn 22 args S Q E := fun _ _ _ _ => rfl
      rw [hi]
      refine w_openinit (n := n) Sto.upd_same fun l2 hl2 => ⟨rfl, ?_⟩
      have nxl : x ≠ l2 := fun e => by rw [← e, Sto.upd_same] at hl2; cases hl2
      have hl3 : S l2 = none := by rw [Sto.upd_ne (Ne.symm nxl)] at hl2; exact hl2
      have nrx : ra ≠ x := new_ne h.rs hx
      have nrl : ra ≠ l2 := new_ne h.rs hl3
      have hr2 : (((S.upd x (.ins 0 [])).upd l2 (.lst [])).upd x (.ins 0 [(3, .ref l2), (4, .int 0)])) ra = some (.lst ((gs ++ [f]).map fun f => D.ref f.x)) := by
        rw [Sto.upd_ne nrx, Sto.upd_ne nrl, Sto.upd_ne nrx]; exact h.rs
      refine bm_app hr2 (of_eq_true (sz_lt (by simp only [List.length_map, List.length_append, List.length_cons, List.length_nil]; omega))) ?_
      walk_at "r"
      exact q1 _ _ (by simp) (by rw [List.map_append, er]; rfl) (h.open_ hx hl3 nxl (.ins 0 []))
    | false =>
      have c2 := beq_eq_false_iff_ne.mp c2
      rw [if_neg c2] at q1 q2
      walk_at "e"
      walk_at "s"
      walk_at "s"; walk_at "e"
      cases c3 : (l == lEnd) with
      | true =>
        have c3 := eq_of_beq c3
        rw [if_pos c3] at q1 q2
        walk_at "e"
        walk_at "s"; walk_at "e"
        simp only [h.ob, lvl_mt]
        walk_at "e"
        show (lvl prg (n + 2)).fn 26 _ _ _ _
        refine w_ended (n := n) h (fun g hg => hL g (List.mem_append_left _ hg)) hz (fun gs' g S' eg hm hr => ?_) (fun hh => ?_)
        · refine q1 _ S' (by simp) ?_ hr
          rw [eg, List.map_append, List.reverse_append]
          simp only [List.map_cons, List.map_nil, List.reverse_cons, List.reverse_nil, List.nil_append, List.cons_append, Fr.row, hm, ne_eq, not_true, if_false, List.reverse_reverse, List.map_append]
        · refine q2 S ?_ h.sx
          rcases hh with rfl | hm
          · rfl
          · cases hrr : (gs.map Fr.row).reverse with
            | nil => rfl
            | cons a r => simp only [ne_eq, hm, not_false_eq_true, if_true]
      | false =>
        have c3 := beq_eq_false_iff_ne.mp c3
        rw [if_neg c3] at q1 q2
        walk_at "e"
        walk_at "s"
        walk_at "s"; walk_at "e"
        unfold bmW
        dsimp only
        rw [txt_starts]
        have f5 := hL f (by simp)
        cases c4 : (l.take 4 == [103, 101, 116, 32]) with
        | true =>
          have c4 := eq_of_beq c4
          have eo : ordP l = (numP (l.drop 4)).map Od.get := by unfold ordP; rw [if_pos c4]
          rw [eo] at q1 q2
          walk_at "e"
          walk_at "s"; walk_at "e"
          refine ⟨of_eq_true (sz_le (by omega)), ?_⟩
          rw [show cutD l (some 4) none = l.drop 4 from cut_from (xs := l) (k := 4)]
          refine w_numberin (n := n + 1) (by rw [List.all_eq_true] at lg ⊢; exact fun c hc => lg c (List.mem_of_mem_drop hc)) (by rw [List.length_drop]; omega) fun S1 x1 => ?_
          have h1 := h.on x1
          walk_at "s"; walk_at "e"
          simp only [h1.top.ob, lvl_mt]
          walk_at "e"
          show (lvl prg (n + 2)).fn 23 _ _ _ _
          refine w_take (n := n + 1) h1.top h1.xl fl ?_
          cases en : numP (l.drop 4) with
          | none =>
            rw [en] at q2
            walk_at "r"
            exact q2 _ rfl h1.sx2
          | some k =>
            rw [en] at q1
            walk_at "r"
            have e : f.L.map encO ++ [D.tup [D.str [103, 101, 116], D.int (k : Int)]] = (f.L ++ [Od.get k]).map encO := by rw [List.map_append]; rfl
            rw [e]
            exact q1 _ _ (by simp) (by rw [List.map_append]; rfl) h1.put
        | false =>
          have c4 := beq_eq_false_iff_ne.mp c4
          walk_at "e"
          walk_at "s"
          walk_at "s"; walk_at "e"
          simp only [h.top.ob, lvl_mt]
          walk_at "e"
          show l.length ≤ sizeLine ∧ (lvl prg (n + 2)).fn 23 _ _ _ _
          refine ⟨of_eq_true (sz_le (by omega)), ?_⟩
          rw [show cutD l (some 5) none = l.drop 5 from cut_from (xs := l) (k := 5)]
          refine w_take (n := n + 1) h.top h.xl fl ?_
          walk_at "s"; walk_at "e"
          unfold bmW
          dsimp only
          rw [txt_starts]
          have eo : ordP l = if l.take 5 = [110, 97, 109, 101, 32] ∧ nameB (l.drop 5) = true then some (.nm (l.drop 5)) else none := by unfold ordP; rw [if_neg c4]
          rw [eo] at q1 q2
          cases c5 : (l.take 5 == [110, 97, 109, 101, 32]) with
          | false =>
            have c5 := beq_eq_false_iff_ne.mp c5
            rw [if_neg (fun h => c5 h.1)] at q2
            walk_at "r"
            exact q2 _ rfl h.sx2
          | true =>
            have c5 := eq_of_beq c5
            walk_at "e"
            refine ⟨of_eq_true (sz_le (by omega)), ?_⟩
            rw [show cutD l (some 5) none = l.drop 5 from cut_from (xs := l) (k := 5)]
            refine w_name (n := n + 1) (by rw [List.all_eq_true] at lg ⊢; exact fun c hc => lg c (List.mem_of_mem_drop hc)) (by rw [List.length_drop]; omega) fun S1 x1 => ?_
            cases cn : nameB (l.drop 5) with
            | false =>
              rw [if_neg (fun h => by rw [cn] at h; cases h.2)] at q2
              exact q2 _ rfl (h.sx2.trans x1)
            | true =>
              rw [if_pos ⟨c5, cn⟩] at q1
              have hp := (h.put (L := f.L ++ [.nm (l.drop 5)]) (m := f.m + 1))
              have e : f.L.map encO ++ [D.tup [D.str [110, 97, 109, 101], D.str (l.drop 5)]] = (f.L ++ [Od.nm (l.drop 5)]).map encO := by rw [List.map_append]; rfl
              rw [e] at x1
              exact q1 _ _ (by simp) (by rw [List.map_append]; rfl) (hp.on x1)
end K49
end Mini
end L2
namespace L2
namespace Mini
namespace K49
open PySem PySem.Spec PyProof.Rows
local macro_rules | `(tactic| walk_at "s") => `(tactic| first | with_reducible refine st_set ?_ | with_reducible refine st_ife ?_ | with_reducible refine st_ret ?_ | with_reducible refine st_ex ?_ | with_reducible refine st_unp ?_ | with_reducible refine st_unpl ?_ | with_reducible refine st_unpa ?_ | with_reducible refine st_aug ?_ | with_reducible refine st_for ?_ | with_reducible refine st_whl ?_ | with_reducible refine st_nil ?_ | with_reducible refine st_setix ?_ | with_reducible refine st_raise ?_ | with_reducible refine st_try ?_ | with_reducible refine st_setat ?_ | with_reducible refine st_augat ?_ | with_reducible refine st_pass ?_ | with_reducible refine st_brk ?_ | with_reducible refine st_cnt ?_)
local macro_rules | `(tactic| walk_at "e") => `(tactic| try simp only [fget, fput, eq_self, Nat.reduceEqDiff, and_true, Int.reduceBEq, wpC, goW, List.map_cons, List.map_nil, deq, deqs, List.any_cons, List.any_nil, slW, cut_1, Int.cast_ofNat_Int, Int.natCast_zero, Int.natCast_one, Int.reduceLE, Int.reduceLT, Int.reduceNeg, Int.reduceAdd, Int.reduceSub, decide_true, decide_false, inW_chr, List.contains_cons, List.contains_nil, Bool.or_true, Bool.true_or, Bool.or_false, Bool.false_or, gd, gds, List.all_cons, List.all_nil, Nat.reduceLT, List.zip_cons_cons, List.zip_nil_left, List.foldl_cons, List.foldl_nil, wpT, wpE, wpEs, wpO, wpI, env0, Env.get, List.map, List.length, List.replicate, List.getElem?_cons_zero, List.getElem?_cons_succ, List.nil_append, List.cons_append, List.append_nil, tru, isiW, cmpW, List.set, Nat.reduceSub, Nat.reduceAdd, Bool.not_true, Bool.not_false, Bool.false_eq_true, if_true, if_false, reduceIte, ixW, biW, bmTy, augW, tgW, newW, wpPs, dmerge, sqW_t, sqW_s, binW_ai, binW_si, binW_at, binW_as, binW_mi, binW_di, binW_mo, atI_0, atI_1, atI_2, ex_some, eqW_str, eqW_int, sz0, sz1, sz2, sz3, sz4, sz5, sz6, sz7, sz8, sz9, sz10, sz11, sz12, sz13, sz14, true_and, Bool.false_xor, Bool.true_xor, lb_cc, lb_nc, lb_cn, lb_nn, Nat.reduceBEq, Bool.and_true, Bool.true_and, Bool.false_and, Bool.and_false, beq_self_eq_true, binW_ms])
local macro_rules | `(tactic| walk_at "r") => `(tactic| ((try walk_at "s"); walk_at "e"; repeat (walk_at "s"; walk_at "e")))
local macro_rules | `(tactic| walk_at "w") => `(tactic| simp only [wpSs, wpS, wpT, wpE, wpEs, wpO, wpI, env0, Env.get, List.map, List.length, List.replicate, List.getElem?_cons_zero, List.getElem?_cons_succ, List.nil_append, List.cons_append, List.append_nil, tru, isiW, cmpW, List.set, Nat.reduceSub, Nat.reduceAdd, Bool.not_true, Bool.not_false, Bool.false_eq_true, if_true, if_false, reduceIte, ixW, biW, bmTy, sqW_t, sqW_s, binW_ai, binW_si, binW_at, binW_as, binW_mi, binW_di, binW_mo, atI_0, atI_1, atI_2, ex_some, eqW_str, eqW_int, sz0, sz1, sz2, sz3, sz4, sz5, sz6, sz7, sz11, true_and, Bool.false_xor, Bool.true_xor, lb_cc, lb_nc, lb_cn, lb_nn, Nat.reduceBEq, Bool.and_true, Bool.true_and, Bool.false_and, Bool.and_false, beq_self_eq_true])
local macro_rules | `(tactic| walk_at "q") => `(tactic| refine eqW_of rfl rfl (Nat.le_of_ble_eq_true rfl) ?_)
local macro_rules | `(tactic| walk_at "g") => `(tactic| (walk_at "r"; repeat (walk_at "q"; walk_at "r")))
/-! ### read_code -/
theorem w_iscode {c : Cd} {n : Nat} {S : Sto} {Q : QD} {E : QX} (hn : 2 * nest c + 10 ≤ n) (hl : nest c < 100) (ht : tot c ≤ 400) (hw : wid c ≤ 90) (hg : goodC c = true) (q : ∀ S', Sx S S' → Q (.bl (top1 c).isSome) S') : (lvl prg (n + 1)).fn 9 [.tup (encC c)] S Q E := by
  obtain ⟨n, rfl⟩ : ∃ k, n = k + 1 := ⟨n - 1, by omega⟩
  refine ⟨rfl, ?_⟩
  unfold ir9
  walk_at "s"; walk_at "e"
  refine f7 (n := n) (left := 100) (by omega) hl ht hg fun S1 x1 => ?_
  cases et : top1 c with
  | none =>
    rw [et] at q
    simp only [optD]
    walk_at "r"
    exact q S1 x1
  | some t =>
    rw [et] at q
    obtain ⟨d1, g1, z1⟩ := top1_ok hg et
    simp only [optD]
    obtain ⟨a, ds, ee⟩ := enc_tup t
    rw [ee]
    walk_at "s"; walk_at "e"
    walk_at "s"
    walk_at "s"; walk_at "e"
    rw [← ee]
    refine w_measured (n := n) g1 (by omega) fun S2 x2 => ?_
    walk_at "e"
    walk_at "s"; walk_at "e"
    rw [decide_eq_true (show ((sz t : Int) ≤ 400) by omega)]
    walk_at "e"
    rw [decide_eq_true (show ((dp t : Int) ≤ 100) by omega)]
    exact q S2 (x1.trans x2)
theorem w_readinit {n : Nat} {o : Addr} {S0 S : Sto} {Q : QD} {E : QX} (ho : S o = some (.ins 1 [])) (x0 : Sx S0 S) (n0 : S0 o = none) (q : ∀ ra x l S', Rdg S0 o ra [⟨x, l, [], 0⟩] S' → Q .non S') : (lvl prg (n + 3)).fn 24 [.ref o] S Q E := by
  refine ⟨rfl, ?_⟩
  unfold ir24
  walk_at "s"; walk_at "e"
  intro x hx
  have hi : ∀ args S Q E, (lvl prg (n + 2)).ini 0 args S Q E = (lvl prg (n + 1)).fn 22 args S Q E := fun _ _ _ _ => rfl
  rw [hi]
  refine w_openinit (n := n) Sto.upd_same fun l hl => ⟨rfl, fun ra hra => ?_⟩
  have nox : o ≠ x := new_ne ho hx
  have nlx : x ≠ l := fun e => by rw [← e, Sto.upd_same] at hl; cases hl
  have hl' : S l = none := by rw [Sto.upd_ne (Ne.symm nlx)] at hl; exact hl
  have nol : o ≠ l := new_ne ho hl'
  have nrx : ra ≠ x := fun e => by rw [e, Sto.upd_same] at hra; cases hra
  have hra2 : (((S.upd x (.ins 0 [])).upd l (.lst []))) ra = none := by rw [Sto.upd_ne nrx] at hra; exact hra
  have nrl : ra ≠ l := fun e => by rw [e, Sto.upd_same] at hra2; cases hra2
  have hr' : S ra = none := by rw [Sto.upd_ne nrl, Sto.upd_ne nrx] at hra2; exact hra2
  have nor : o ≠ ra := new_ne ho hr'
  have s0 : ∀ a, S a = none → S0 a = none := fun a ha => by
    cases e : S0 a with
    | none => rfl
    | some c => rw [x0 a c e] at ha; cases ha
  have ho2 : (((((S.upd x (.ins 0 [])).upd l (.lst [])).upd x (.ins 0 [(3, .ref l), (4, .int 0)]))).upd ra (.lst [.ref x])) o = some (.ins 1 []) := by
    rw [Sto.upd_ne nor, Sto.upd_ne nox, Sto.upd_ne nol, Sto.upd_ne nox]; exact ho
  simp only [ho2]
  refine ⟨by decide, ?_⟩
  walk_at "s"
  refine q ra x l _ ⟨fun a c hc => ?_, ?_, ?_, fun f hf => ?_, fun a ha => ?_, ?_⟩
  · have e := x0 a c hc
    have no := new_ne hc n0
    rw [Sto.upd_ne no, Sto.upd_ne (new_ne e hr'), Sto.upd_ne (new_ne e hx), Sto.upd_ne (new_ne e hl'), Sto.upd_ne (new_ne e hx)]
    exact e
  · rw [Sto.upd_same]; rfl
  · rw [Sto.upd_ne (Ne.symm nor), Sto.upd_same]; rfl
  · rw [List.mem_singleton.mp hf]
    refine ⟨?_, ?_⟩
    · show (Sto.upd _ o _) x = _
      rw [Sto.upd_ne (Ne.symm nox), Sto.upd_ne (Ne.symm nrx), Sto.upd_same]
    · show (Sto.upd _ o _) l = _
      rw [Sto.upd_ne (Ne.symm nol), Sto.upd_ne (Ne.symm nrl), Sto.upd_ne (Ne.symm nlx), Sto.upd_same]
      rfl
  · simp only [List.flatMap_cons, List.flatMap_nil, List.append_nil, List.mem_cons, List.not_mem_nil, or_false] at ha
    rcases ha with rfl | rfl | rfl | rfl
    · exact n0
    · exact s0 _ hr'
    · exact s0 _ hx
    · exact s0 _ hl'
  · simp only [List.flatMap_cons, List.flatMap_nil, List.append_nil, List.nodup_cons, List.mem_cons, List.not_mem_nil, or_false, not_or, not_false_eq_true, List.nodup_nil, and_true]
    exact ⟨⟨nor, nox, nol⟩, ⟨nrx, nrl⟩, nlx⟩
/-- the lines one by one -/
def rdAll : List (List Nat) → Nat → List Row → Nat ⊕ List Row
  | [], _, st => .inr st
  | l :: ls, k, st => match rdL l st with
    | none => .inl (k + 1)
    | some st' => rdAll ls (k + 1) st'
end K49
end Mini
end L2
namespace L2
namespace Mini
namespace K49
open PySem PySem.Spec PyProof.Rows
local macro_rules | `(tactic| walk_at "s") => `(tactic| first | with_reducible refine st_set ?_ | with_reducible refine st_ife ?_ | with_reducible refine st_ret ?_ | with_reducible refine st_ex ?_ | with_reducible refine st_unp ?_ | with_reducible refine st_unpl ?_ | with_reducible refine st_unpa ?_ | with_reducible refine st_aug ?_ | with_reducible refine st_for ?_ | with_reducible refine st_whl ?_ | with_reducible refine st_nil ?_ | with_reducible refine st_setix ?_ | with_reducible refine st_raise ?_ | with_reducible refine st_try ?_ | with_reducible refine st_setat ?_ | with_reducible refine st_augat ?_ | with_reducible refine st_pass ?_ | with_reducible refine st_brk ?_ | with_reducible refine st_cnt ?_)
local macro_rules | `(tactic| walk_at "e") => `(tactic| try simp only [fget, fput, eq_self, Nat.reduceEqDiff, and_true, Int.reduceBEq, wpC, goW, List.map_cons, List.map_nil, deq, deqs, List.any_cons, List.any_nil, slW, cut_1, Int.cast_ofNat_Int, Int.natCast_zero, Int.natCast_one, Int.reduceLE, Int.reduceLT, Int.reduceNeg, Int.reduceAdd, Int.reduceSub, decide_true, decide_false, inW_chr, List.contains_cons, List.contains_nil, Bool.or_true, Bool.true_or, Bool.or_false, Bool.false_or, gd, gds, List.all_cons, List.all_nil, Nat.reduceLT, List.zip_cons_cons, List.zip_nil_left, List.foldl_cons, List.foldl_nil, wpT, wpE, wpEs, wpO, wpI, env0, Env.get, List.map, List.length, List.replicate, List.getElem?_cons_zero, List.getElem?_cons_succ, List.nil_append, List.cons_append, List.append_nil, tru, isiW, cmpW, List.set, Nat.reduceSub, Nat.reduceAdd, Bool.not_true, Bool.not_false, Bool.false_eq_true, if_true, if_false, reduceIte, ixW, biW, bmTy, augW, tgW, newW, wpPs, dmerge, sqW_t, sqW_s, binW_ai, binW_si, binW_at, binW_as, binW_mi, binW_di, binW_mo, atI_0, atI_1, atI_2, ex_some, eqW_str, eqW_int, sz0, sz1, sz2, sz3, sz4, sz5, sz6, sz7, sz8, sz9, sz10, sz11, sz12, sz13, sz14, true_and, Bool.false_xor, Bool.true_xor, lb_cc, lb_nc, lb_cn, lb_nn, Nat.reduceBEq, Bool.and_true, Bool.true_and, Bool.false_and, Bool.and_false, beq_self_eq_true, binW_ms])
local macro_rules | `(tactic| walk_at "r") => `(tactic| ((try walk_at "s"); walk_at "e"; repeat (walk_at "s"; walk_at "e")))
local macro_rules | `(tactic| walk_at "w") => `(tactic| simp only [wpSs, wpS, wpT, wpE, wpEs, wpO, wpI, env0, Env.get, List.map, List.length, List.replicate, List.getElem?_cons_zero, List.getElem?_cons_succ, List.nil_append, List.cons_append, List.append_nil, tru, isiW, cmpW, List.set, Nat.reduceSub, Nat.reduceAdd, Bool.not_true, Bool.not_false, Bool.false_eq_true, if_true, if_false, reduceIte, ixW, biW, bmTy, sqW_t, sqW_s, binW_ai, binW_si, binW_at, binW_as, binW_mi, binW_di, binW_mo, atI_0, atI_1, atI_2, ex_some, eqW_str, eqW_int, sz0, sz1, sz2, sz3, sz4, sz5, sz6, sz7, sz11, true_and, Bool.false_xor, Bool.true_xor, lb_cc, lb_nc, lb_cn, lb_nn, Nat.reduceBEq, Bool.and_true, Bool.true_and, Bool.false_and, Bool.and_false, beq_self_eq_true])
local macro_rules | `(tactic| walk_at "q") => `(tactic| refine eqW_of rfl rfl (Nat.le_of_ble_eq_true rfl) ?_)
local macro_rules | `(tactic| walk_at "g") => `(tactic| (walk_at "r"; repeat (walk_at "q"; walk_at "r")))
/-! ### what the rows read are -/
theorem back_app : ∀ (L : List Od) (o : Od) (st : List Tm), back (ofL (L ++ [o])) st = match back (ofL L) st with
    | none => none
    | some ts => back (ofL [o]) ts
  | [], o, st => rfl
  | .get n :: L, o, st => by
    show back (.get n (ofL (L ++ [o]))) st = match back (.get n (ofL L)) st with
      | none => none
      | some ts => back (ofL [o]) ts
    simp only [back]
    exact back_app L o (st ++ [Tm.av n])
  | .nm w :: L, o, st => by
    show back (.nm w (ofL (L ++ [o]))) st = match back (.nm w (ofL L)) st with
      | none => none
      | some ts => back (ofL [o]) ts
    simp only [back]
    exact back_app L o (st ++ [Tm.nm w])
  | .close b :: L, o, st => by
    show back (.close b (ofL (L ++ [o]))) st = match back (.close b (ofL L)) st with
      | none => none
      | some ts => back (ofL [o]) ts
    simp only [back]
    cases back b [] with
    | none => rfl
    | some ts => match ts with
      | [] => rfl
      | [t] => exact back_app L o (st ++ [.fn t])
      | _ :: _ :: _ => rfl
  | .call :: L, o, st => by
    show back (.call (ofL (L ++ [o]))) st = match back (.call (ofL L)) st with
      | none => none
      | some ts => back (ofL [o]) ts
    simp only [back]
    cases st.reverse with
    | nil => rfl
    | cons a r => cases r with
      | nil => rfl
      | cons f s => exact back_app L o (s.reverse ++ [.cl f a])
theorem nest_wid : ∀ c : Cd, nest c ≤ wid c
  | .nil => Nat.le_refl _
  | .get _ r => nest_wid r
  | .nm _ r => nest_wid r
  | .close b r => by have := nest_wid b; have := nest_wid r; simp only [nest, wid]; omega
  | .call r => by have := nest_wid r; simp only [nest, wid]; omega
abbrev rT (r : Row) : Nat := (r.1.map oT).sum
abbrev rW (r : Row) : Nat := (r.1.map oW).sum
/-- a row with its open place in order -/
structure Gr (r : Row) : Prop where
  ok : ∀ o ∈ r.1, oG o = true
  bk : ∃ ts, back (ofL r.1) [] = some ts ∧ r.2 = (ts.length : Int)
/-- the rows behind k lines -/
structure Gd (st : List Row) (k : Nat) : Prop where
  ne : st ≠ []
  len : st.length ≤ k + 1
  tT : (st.map rT).sum ≤ k
  tW : (st.map rW).sum ≤ k
  ok : ∀ r ∈ st, Gr r
theorem Gd.start : Gd [([], 0)] 0 := ⟨by simp, by simp, by simp [rT], by simp [rW], fun r hr => by
  rw [List.mem_singleton.mp hr]
  exact ⟨fun o ho => (by cases ho), [], rfl, rfl⟩⟩
theorem ordP_good {l : List Nat} {o : Od} (h : ordP l = some o) : oG o = true ∧ oT o = 1 ∧ oW o = 0 ∧ ∀ st, ∃ t, back (ofL [o]) st = some (st ++ [t]) := by
  unfold ordP at h
  split at h
  · cases hn : numP (l.drop 4) with
    | none => rw [hn] at h; cases h
    | some n =>
      rw [hn] at h
      simp only [Option.map_some, Option.some.injEq] at h
      subst h
      have : n ≤ 400 := by
        unfold numP at hn
        split at hn
        · cases hn
        · split at hn
          · cases hn
          · split at hn
            · cases hn
            · cases hn; omega
      exact ⟨decide_eq_true this, rfl, rfl, fun st => ⟨.av n, rfl⟩⟩
  · split at h
    · rename_i hh
      simp only [Option.some.injEq] at h
      subst h
      exact ⟨hh.2, rfl, rfl, fun st => ⟨_, rfl⟩⟩
    · cases h
theorem sum_snoc (st : List Row) (r : Row) (f : Row → Nat) : ((st ++ [r]).map f).sum = (st.map f).sum + f r := by simp
theorem Gd.step {l : List Nat} {st st' : List Row} {k : Nat} (h : Gd st k) (e : rdL l st = some st') : Gd st' (k + 1) := by
  rcases snoc_cases st with rfl | ⟨r, ⟨L, m⟩, rfl⟩
  · exact absurd rfl h.ne
  have hr : ∀ x ∈ r, Gr x := fun x hx => h.ok x (List.mem_append_left _ hx)
  have hL := h.ok (L, m) (by simp)
  obtain ⟨ts, hb, hm⟩ := hL.bk
  dsimp only at hb hm
  have t1 := h.tT; have t2 := h.tW; have t3 := h.len
  rw [sum_snoc] at t1 t2
  simp only [rT, rW] at t1 t2
  rw [List.length_append, List.length_cons, List.length_nil] at t3
  have okL : ∀ o ∈ L, oG o = true := hL.ok
  rw [rdL_last] at e
  split at e
  · split at e
    · cases e
    · rename_i hm2
      simp only [Option.some.injEq] at e
      subst e
      refine ⟨by simp, by simp; omega, ?_, ?_, fun x hx => ?_⟩
      · rw [sum_snoc]; simp only [rT, List.map_append, List.map_cons, List.map_nil, List.sum_append, List.sum_cons, List.sum_nil, oT]; omega
      · rw [sum_snoc]; simp only [rW, List.map_append, List.map_cons, List.map_nil, List.sum_append, List.sum_cons, List.sum_nil, oW]; omega
      · rcases List.mem_append.mp hx with hx | hx
        · exact hr x hx
        · rw [List.mem_singleton.mp hx]
          refine ⟨fun o ho => ?_, ?_⟩
          · rcases List.mem_append.mp ho with ho | ho
            · exact okL o ho
            · rw [List.mem_singleton.mp ho]; rfl
          · dsimp only
            rw [back_app, hb]
            dsimp only
            show ∃ ts', back (.call .nil) ts = some ts' ∧ _
            simp only [back]
            cases hrv : ts.reverse with
            | nil =>
              have := congrArg List.length hrv
              simp at this
              rw [this] at hm; simp at hm; omega
            | cons a q => cases q with
              | nil =>
                have := congrArg List.length hrv
                simp at this
                omega
              | cons f s =>
                have := congrArg List.length hrv
                simp at this
                exact ⟨_, rfl, by simp; omega⟩
  · split at e
    · simp only [Option.some.injEq] at e
      subst e
      refine ⟨by simp, by simp; omega, ?_, ?_, fun x hx => ?_⟩
      · rw [sum_snoc, sum_snoc]; simp only [rT, List.map_nil, List.sum_nil]; omega
      · rw [sum_snoc, sum_snoc]; simp only [rW, List.map_nil, List.sum_nil]; omega
      · rcases List.mem_append.mp hx with hx | hx
        · exact h.ok x hx
        · rw [List.mem_singleton.mp hx]
          exact ⟨fun o ho => (by cases ho), [], rfl, rfl⟩
    · split at e
      · rcases snoc_cases r with rfl | ⟨r', ⟨L', m'⟩, rfl⟩
        · simp at e
        · simp only [List.reverse_append, List.reverse_cons, List.reverse_nil, List.nil_append, List.cons_append, List.reverse_reverse] at e
          split at e
          · cases e
          · rename_i hm1
            simp only [Option.some.injEq] at e
            subst e
            have hL' := hr (L', m') (by simp)
            obtain ⟨ts', hb', hm'⟩ := hL'.bk
            dsimp only at hb' hm'
            have ht1 : ts.length = 1 := by simp only [ne_eq, Decidable.not_not] at hm1; omega
            obtain ⟨t, rfl⟩ : ∃ t, ts = [t] := by
              match ts, ht1 with
              | [t], _ => exact ⟨t, rfl⟩
            rw [sum_snoc] at t1 t2
            simp only [rT, rW] at t1 t2
            simp only [List.length_append, List.length_cons, List.length_nil] at t3
            have eT := tot_ofL L
            have eW := wid_ofL L
            refine ⟨by simp, by simp; omega, ?_, ?_, fun x hx => ?_⟩
            · rw [sum_snoc]; simp only [rT, List.map_append, List.map_cons, List.map_nil, List.sum_append, List.sum_cons, List.sum_nil, oT]; omega
            · rw [sum_snoc]; simp only [rW, List.map_append, List.map_cons, List.map_nil, List.sum_append, List.sum_cons, List.sum_nil, oW]; omega
            · rcases List.mem_append.mp hx with hx | hx
              · exact hr x (List.mem_append_left _ hx)
              · rw [List.mem_singleton.mp hx]
                refine ⟨fun o ho => ?_, ?_⟩
                · rcases List.mem_append.mp ho with ho | ho
                  · exact hL'.ok o ho
                  · rw [List.mem_singleton.mp ho]; exact good_ofL L okL
                · dsimp only
                  rw [back_app, hb']
                  dsimp only
                  show ∃ ts2, back (.close (ofL L) .nil) ts' = some ts2 ∧ _
                  simp only [back, hb]
                  exact ⟨_, rfl, by simp; omega⟩
      · cases ho : ordP l with
        | none => rw [ho] at e; cases e
        | some o =>
          rw [ho] at e
          simp only [Option.some.injEq] at e
          subst e
          obtain ⟨g1, g2, g3, g4⟩ := ordP_good ho
          refine ⟨by simp, by simp; omega, ?_, ?_, fun x hx => ?_⟩
          · rw [sum_snoc]; simp only [rT, List.map_append, List.map_cons, List.map_nil, List.sum_append, List.sum_cons, List.sum_nil, g2]; omega
          · rw [sum_snoc]; simp only [rW, List.map_append, List.map_cons, List.map_nil, List.sum_append, List.sum_cons, List.sum_nil, g3]; omega
          · rcases List.mem_append.mp hx with hx | hx
            · exact hr x hx
            · rw [List.mem_singleton.mp hx]
              refine ⟨fun o' ho' => ?_, ?_⟩
              · rcases List.mem_append.mp ho' with ho' | ho'
                · exact okL o' ho'
                · rw [List.mem_singleton.mp ho']; exact g1
              · dsimp only
                rw [back_app, hb]
                dsimp only
                obtain ⟨t, ht⟩ := g4 ts
                exact ⟨_, ht, by simp; omega⟩
end K49
end Mini
end L2
namespace L2
namespace Mini
namespace K49
open PySem PySem.Spec PyProof.Rows
local macro_rules | `(tactic| walk_at "s") => `(tactic| first | with_reducible refine st_set ?_ | with_reducible refine st_ife ?_ | with_reducible refine st_ret ?_ | with_reducible refine st_ex ?_ | with_reducible refine st_unp ?_ | with_reducible refine st_unpl ?_ | with_reducible refine st_unpa ?_ | with_reducible refine st_aug ?_ | with_reducible refine st_for ?_ | with_reducible refine st_whl ?_ | with_reducible refine st_nil ?_ | with_reducible refine st_setix ?_ | with_reducible refine st_raise ?_ | with_reducible refine st_try ?_ | with_reducible refine st_setat ?_ | with_reducible refine st_augat ?_ | with_reducible refine st_pass ?_ | with_reducible refine st_brk ?_ | with_reducible refine st_cnt ?_)
local macro_rules | `(tactic| walk_at "e") => `(tactic| try simp only [fget, fput, eq_self, Nat.reduceEqDiff, and_true, Int.reduceBEq, wpC, goW, List.map_cons, List.map_nil, deq, deqs, List.any_cons, List.any_nil, slW, cut_1, Int.cast_ofNat_Int, Int.natCast_zero, Int.natCast_one, Int.reduceLE, Int.reduceLT, Int.reduceNeg, Int.reduceAdd, Int.reduceSub, decide_true, decide_false, inW_chr, List.contains_cons, List.contains_nil, Bool.or_true, Bool.true_or, Bool.or_false, Bool.false_or, gd, gds, List.all_cons, List.all_nil, Nat.reduceLT, List.zip_cons_cons, List.zip_nil_left, List.foldl_cons, List.foldl_nil, wpT, wpE, wpEs, wpO, wpI, env0, Env.get, List.map, List.length, List.replicate, List.getElem?_cons_zero, List.getElem?_cons_succ, List.nil_append, List.cons_append, List.append_nil, tru, isiW, cmpW, List.set, Nat.reduceSub, Nat.reduceAdd, Bool.not_true, Bool.not_false, Bool.false_eq_true, if_true, if_false, reduceIte, ixW, biW, bmTy, augW, tgW, newW, wpPs, dmerge, sqW_t, sqW_s, binW_ai, binW_si, binW_at, binW_as, binW_mi, binW_di, binW_mo, atI_0, atI_1, atI_2, ex_some, eqW_str, eqW_int, sz0, sz1, sz2, sz3, sz4, sz5, sz6, sz7, sz8, sz9, sz10, sz11, sz12, sz13, sz14, true_and, Bool.false_xor, Bool.true_xor, lb_cc, lb_nc, lb_cn, lb_nn, Nat.reduceBEq, Bool.and_true, Bool.true_and, Bool.false_and, Bool.and_false, beq_self_eq_true, binW_ms])
local macro_rules | `(tactic| walk_at "r") => `(tactic| ((try walk_at "s"); walk_at "e"; repeat (walk_at "s"; walk_at "e")))
local macro_rules | `(tactic| walk_at "w") => `(tactic| simp only [wpSs, wpS, wpT, wpE, wpEs, wpO, wpI, env0, Env.get, List.map, List.length, List.replicate, List.getElem?_cons_zero, List.getElem?_cons_succ, List.nil_append, List.cons_append, List.append_nil, tru, isiW, cmpW, List.set, Nat.reduceSub, Nat.reduceAdd, Bool.not_true, Bool.not_false, Bool.false_eq_true, if_true, if_false, reduceIte, ixW, biW, bmTy, sqW_t, sqW_s, binW_ai, binW_si, binW_at, binW_as, binW_mi, binW_di, binW_mo, atI_0, atI_1, atI_2, ex_some, eqW_str, eqW_int, sz0, sz1, sz2, sz3, sz4, sz5, sz6, sz7, sz11, true_and, Bool.false_xor, Bool.true_xor, lb_cc, lb_nc, lb_cn, lb_nn, Nat.reduceBEq, Bool.and_true, Bool.true_and, Bool.false_and, Bool.and_false, beq_self_eq_true])
local macro_rules | `(tactic| walk_at "q") => `(tactic| refine eqW_of rfl rfl (Nat.le_of_ble_eq_true rfl) ?_)
local macro_rules | `(tactic| walk_at "g") => `(tactic| (walk_at "r"; repeat (walk_at "q"; walk_at "r")))
/-! ### read_code, whole -/
def prs : Nat → List (List Nat) → List D
  | _, [] => []
  | k, l :: ls => .tup [.int (k : Int), .str l] :: prs (k + 1) ls
theorem zip_prs : ∀ (ls : List (List Nat)) (k : Nat), ((List.range' k ls.length).zip (ls.map D.str)).map (fun (p : Nat × D) => D.tup [.int p.1, p.2]) = prs k ls
  | [], _ => rfl
  | l :: ls, k => by
    rw [List.length_cons, List.range'_succ, List.map_cons, List.zip_cons_cons, List.map_cons, zip_prs ls (k + 1)]
    rfl
theorem enum_prs (ls : List (List Nat)) : enumD (ls.map D.str) = prs 0 ls := by
  unfold enumD
  rw [List.length_map, List.range_eq_range']
  exact zip_prs ls 0
abbrev xText (k : Nat) : Xn := ⟨3, [(0, .int (k : Int))]⟩
theorem split_lines {ls : List (List Nat)} (ne : ls ≠ []) (h : ∀ l ∈ ls, 10 ∉ l) : (Txt.split (st (jn 10 ls)) (st [10])).map (fun y => D.str y.cps.toList) = ls.map D.str := by
  have e := txt_split 10 (jn 10 ls)
  rw [spl_jn ne h] at e
  have e2 : (Txt.split (st (jn 10 ls)) (st [10])).map (fun y => D.str y.cps.toList) = ((Txt.split (st (jn 10 ls)) (st [10])).map (fun y => y.cps.toList)).map D.str := by rw [List.map_map]; rfl
  rw [e2, e]
theorem Rdg.rebase {S0 S : Sto} {o ra a : Addr} {fs : List Fr} {c : Cell} (h : Rdg S0 o ra fs S) (ha : S a = none) : Rdg (S0.upd a c) o ra fs (S.upd a c) := by
  have own : ∀ b ∈ o :: ra :: fs.flatMap (fun f => [f.x, f.l]), ∃ c, S b = some c := fun b hb => by
    rcases List.mem_cons.mp hb with rfl | hb
    · exact ⟨_, h.ob⟩
    rcases List.mem_cons.mp hb with rfl | hb
    · exact ⟨_, h.rs⟩
    obtain ⟨f, hf, hb⟩ := List.mem_flatMap.mp hb
    have hh := h.at_ f hf
    simp only [List.mem_cons, List.not_mem_nil, or_false] at hb
    rcases hb with rfl | rfl
    · exact ⟨_, hh.ob⟩
    · exact ⟨_, hh.os⟩
  have h2 := h.on (Sx.new (c := c) ha)
  refine ⟨fun b d hb => ?_, h2.ob, h2.rs, h2.at_, fun b hb => ?_, h.nd⟩
  · by_cases e : b = a
    · subst e
      rw [Sto.upd_same] at hb ⊢
      exact hb
    · rw [Sto.upd_ne e] at hb ⊢
      exact h.sx b d hb
  · obtain ⟨d, hd⟩ := own b hb
    rw [Sto.upd_ne (new_ne hd ha)]
    exact h.nw b hb
theorem oT_pos (o : Od) : 1 ≤ oT o := by cases o <;> simp [oT]
theorem len_oT : ∀ L : List Od, L.length ≤ (L.map oT).sum
  | [] => Nat.le_refl _
  | o :: L => by have := oT_pos o; have := len_oT L; simp only [List.length_cons, List.map_cons, List.sum_cons]; omega
theorem len_rT : ∀ (st : List Row), ∀ r ∈ st, r.1.length ≤ (st.map rT).sum
  | [], r, h => by cases h
  | x :: st, r, h => by
    simp only [List.map_cons, List.sum_cons]
    rcases List.mem_cons.mp h with rfl | h
    · have := len_oT r.1; simp only [rT]; omega
    · have := len_rT st r h; omega
theorem top1_one {L : List Od} {m : Int} (h : Gr (L, m)) : (top1 (ofL L)).isSome = (m == 1) := by
  obtain ⟨ts, hb, hm⟩ := h.bk
  dsimp only at hb hm
  unfold top1
  rw [hb]
  match ts, hm with
  | [], hm => rw [hm]; rfl
  | [t], hm => rw [hm]; rfl
  | a :: b :: r, hm =>
    rw [hm]
    refine (beq_eq_false_iff_ne.mpr ?_).symm
    simp only [List.length_cons]
    omega
theorem w_readcode {ls : List (List Nat)} {n : Nat} {S : Sto} {Q : QD} {E : QX} (ne : ls ≠ []) (h10 : ∀ l ∈ ls, 10 ∉ l) (hv : ∀ l ∈ ls, l.all (fun c => decide (c < 0x110000)) = true ∧ l.length ≤ 1000) (hn : ls.length ≤ 80) (ht : (jn 10 ls).length ≤ 4000)
    (e : ∀ k S', rdAll ls 0 [([], 0)] = .inl k → Sx S S' → E (xText k) S') (q : ∀ L m S', rdAll ls 0 [([], 0)] = .inr [(L, m)] → m = 1 → Sx S S' → Q (.tup (L.map encO)) S') (e2 : ∀ st S', rdAll ls 0 [([], 0)] = .inr st → (∀ L, st ≠ [(L, 1)]) → Sx S S' → E (xText ls.length) S') :
    (lvl prg (n + 200)).fn 10 [.str (jn 10 ls)] S Q E := by
  refine ⟨rfl, ?_⟩
  have tl : ∀ G K X σ S', wpSs G ir10 K X σ S' = wpSs G (.cons (.ife (.or (.not (.isi (.var 0) .str)) (.cmp .gt (.bi .len (.cons (.var 0) .nil)) (.lit (.int 4000)))) (.cons (.raise 3 (.cons (.lit (.int 0)) .nil)) .nil) .nil) (.cons (.set 1 (.new 1 .nil)) (.cons (.set 2 (.bm .split (.var 0) (.cons (.lit (.str [10])) .nil))) (.cons (.for_ (.tp [4, 5]) (.enum (.var 2)) (forBody ir10)) (dropS 4 ir10))))) K X σ S' := fun _ _ _ _ _ => rfl
  rw [tl]
  walk_at "s"; walk_at "e"
  refine ⟨of_eq_true (sz_le (by omega)), ?_⟩
  rw [decide_eq_false (show ¬ ((4000 : Int) < ((jn 10 ls).length : Int)) by omega)]
  walk_at "e"
  walk_at "s"
  walk_at "s"; walk_at "e"
  intro o ho
  have hi : ∀ args S Q E, (lvl prg (n + 199)).ini 1 args S Q E = (lvl prg (n + 198)).fn 24 args S Q E := fun _ _ _ _ => rfl
  rw [hi]
  refine w_readinit (n := n + 195) (S0 := S) Sto.upd_same (Sx.new ho) ho fun ra x l S1 h1 => ⟨rfl, ?_⟩
  walk_at "s"; walk_at "e"
  unfold bmW
  dsimp only
  refine ⟨by decide, Nat.le_trans (show (jn 10 ls).length + 2 ≤ 1000000 by omega) szl, fun a ha => ?_⟩
  rw [split_lines ne h10]
  have h2 := h1.rebase (c := .lst (ls.map D.str)) ha
  have sa : S a = none := by
    cases e : S a with
    | none => rfl
    | some c => rw [h1.sx a c e] at ha; cases ha
  have sx0 : Sx S (S.upd a (.lst (ls.map D.str))) := Sx.new sa
  generalize hT : dropS 4 ir10 = T
  walk_at "s"
  refine ⟨_, rd_upd, ?_⟩
  dsimp only
  rw [enum_prs]
  have go : ∀ (ls2 : List (List Nat)) (k : Nat) (fs : List Fr) (o4 o5 : Option D) (S3 : Sto), Rdg (S.upd a (.lst (ls.map D.str))) o ra fs S3 → Gd (fs.map Fr.row) k → k + ls2.length = ls.length → (∀ l ∈ ls2, l ∈ ls) → rdAll ls2 k (fs.map Fr.row) = rdAll ls 0 [([], 0)] →
      forW (liveL a (ls.map D.str)) (.tp [4, 5]) (fun K σ S => wpSs (lvl prg (n + 199)) (forBody ir10) K (fun x _ S' => E x S') σ S) { nx := fun σ' S' => wpSs (lvl prg (n + 199)) T { nx := fun _ S' => Q .non S', rt := Q } (fun x _ S' => E x S') σ' S', rt := Q } (prs k ls2) [some (.str (jn 10 ls)), some (.ref o), some (.ref a), none, o4, o5] S3 := by
    intro ls2
    induction ls2 with
    | nil =>
      intro k fs o4 o5 S3 h3 g3 hk hm he
      have la : S3 a = some (.lst (ls.map D.str)) := h3.sx _ _ Sto.upd_same
      refine ⟨rd_lst la, ?_⟩
      simp only [List.length_nil, Nat.add_zero] at hk
      subst hk
      cases fs with
      | nil => exact absurd rfl g3.ne
      | cons f fs =>
        have hf := h3.at_ f List.mem_cons_self
        have gf := g3.ok f.row (by simp)
        have tT := g3.tT; have tW := g3.tW
        simp only [List.map_cons, List.sum_cons, rT, rW, Fr.row] at tT tW
        have c1 : tot (ofL f.L) ≤ 400 := by rw [tot_ofL]; omega
        have c2 : wid (ofL f.L) ≤ 80 := by rw [wid_ofL]; omega
        have c3 := nest_wid (ofL f.L)
        have c4 : goodC (ofL f.L) = true := good_ofL _ gf.ok
        subst hT
        dsimp only [dropS, ir10]
        walk_at "s"; walk_at "e"
        simp only [h3.ob]
        walk_at "e"
        simp only [h3.rs]
        walk_at "e"
        simp only [hf.ob]
        walk_at "e"
        refine ⟨_, rd_lst hf.os, ?_⟩
        walk_at "s"; walk_at "e"
        simp only [h3.ob]
        walk_at "e"
        simp only [h3.rs, List.length_map]
        cases hb : decide ((1 : Int) < ((f :: fs).length : Int)) with
        | true =>
          have hb := of_decide_eq_true hb
          walk_at "e"
          walk_at "s"; walk_at "e"
          simp only [la, List.length_map]
          rw [lvl_xfl]
          refine ⟨rfl, e2 _ S3 he.symm (fun L hh => ?_) (sx0.trans h3.sx)⟩
          have := congrArg List.length hh
          simp only [List.length_map, List.length_cons, List.length_nil] at this hb
          omega
        | false =>
          have hb := of_decide_eq_false hb
          have ef : fs = [] := List.eq_nil_of_length_eq_zero (by simp only [List.length_cons] at hb; omega)
          subst ef
          walk_at "e"
          rw [← encC_ofL]
          refine w_iscode (n := n + 198) (by omega) (by omega) c1 (by omega) c4 fun S4 x4 => ?_
          rw [top1_one (m := f.m) gf]
          have la4 := x4 _ _ la
          cases hm1 : (f.m == 1) with
          | false =>
            have hm1 := beq_eq_false_iff_ne.mp hm1
            walk_at "e"
            walk_at "s"; walk_at "e"
            simp only [la4, List.length_map]
            rw [lvl_xfl]
            refine ⟨rfl, e2 _ S4 he.symm (fun L hh => hm1 ?_) ((sx0.trans h3.sx).trans x4)⟩
            simp only [List.map_cons, List.map_nil, Fr.row, List.cons.injEq, Prod.mk.injEq, and_true] at hh
            exact hh.2
          | true =>
            have hm1 := eq_of_beq hm1
            walk_at "r"
            rw [encC_ofL]
            exact q f.L f.m S4 he.symm hm1 ((sx0.trans h3.sx).trans x4)
    | cons l ls2 ih =>
      intro k fs o4 o5 S3 h3 g3 hk hm he
      have la : S3 a = some (.lst (ls.map D.str)) := h3.sx _ _ Sto.upd_same
      simp only [List.length_cons] at hk
      have hl := hv l (hm l List.mem_cons_self)
      refine forW_step (rd_lst la) rfl fun K' knx _ _ _ => ?_
      rcases snoc_cases fs with rfl | ⟨gs, f, rfl⟩
      · exact absurd rfl g3.ne
      dsimp only [forBody, ir10]
      walk_at "s"; walk_at "e"
      simp only [h3.ob, lvl_mt]
      walk_at "e"
      show (lvl prg (n + 199)).fn 25 _ _ _ _
      have tT := g3.tT
      have hlen := g3.len
      simp only [List.length_map, List.length_append, List.length_cons, List.length_nil] at hlen
      refine w_isread (n := n + 196) h3 (fun g hg => ?_) (by omega) hl.1 hl.2 (fun fs' S4 nef e4 h4 => ?_) (fun S4 e4 x4 => ?_)
      · have := len_rT _ g.row (List.mem_map_of_mem hg)
        simp only [Fr.row] at this
        omega
      · walk_at "e"
        walk_at "s"
        walk_at "s"
        refine knx _ _ (ih (k + 1) fs' _ _ S4 h4 (g3.step e4) (by omega) (fun y hy => hm y (List.mem_cons_of_mem _ hy)) ?_)
        rw [← he]
        simp only [rdAll, e4]
      · walk_at "e"
        walk_at "s"; walk_at "e"
        rw [lvl_xfl]
        refine ⟨rfl, ?_⟩
        exact e (k + 1) S4 (by rw [← he]; simp only [rdAll, e4]) (sx0.trans x4)
  exact go ls 0 [⟨x, l, [], 0⟩] none none _ h2 Gd.start (by omega) (fun _ h => h) rfl
end K49
end Mini
end L2
namespace L2
namespace Mini
namespace K49
open PySem PySem.Spec PyProof.Rows
local macro_rules | `(tactic| walk_at "s") => `(tactic| first | with_reducible refine st_set ?_ | with_reducible refine st_ife ?_ | with_reducible refine st_ret ?_ | with_reducible refine st_ex ?_ | with_reducible refine st_unp ?_ | with_reducible refine st_unpl ?_ | with_reducible refine st_unpa ?_ | with_reducible refine st_aug ?_ | with_reducible refine st_for ?_ | with_reducible refine st_whl ?_ | with_reducible refine st_nil ?_ | with_reducible refine st_setix ?_ | with_reducible refine st_raise ?_ | with_reducible refine st_try ?_ | with_reducible refine st_setat ?_ | with_reducible refine st_augat ?_ | with_reducible refine st_pass ?_ | with_reducible refine st_brk ?_ | with_reducible refine st_cnt ?_)
local macro_rules | `(tactic| walk_at "e") => `(tactic| try simp only [fget, fput, eq_self, Nat.reduceEqDiff, and_true, Int.reduceBEq, wpC, goW, List.map_cons, List.map_nil, deq, deqs, List.any_cons, List.any_nil, slW, cut_1, Int.cast_ofNat_Int, Int.natCast_zero, Int.natCast_one, Int.reduceLE, Int.reduceLT, Int.reduceNeg, Int.reduceAdd, Int.reduceSub, decide_true, decide_false, inW_chr, List.contains_cons, List.contains_nil, Bool.or_true, Bool.true_or, Bool.or_false, Bool.false_or, gd, gds, List.all_cons, List.all_nil, Nat.reduceLT, List.zip_cons_cons, List.zip_nil_left, List.foldl_cons, List.foldl_nil, wpT, wpE, wpEs, wpO, wpI, env0, Env.get, List.map, List.length, List.replicate, List.getElem?_cons_zero, List.getElem?_cons_succ, List.nil_append, List.cons_append, List.append_nil, tru, isiW, cmpW, List.set, Nat.reduceSub, Nat.reduceAdd, Bool.not_true, Bool.not_false, Bool.false_eq_true, if_true, if_false, reduceIte, ixW, biW, bmTy, augW, tgW, newW, wpPs, dmerge, sqW_t, sqW_s, binW_ai, binW_si, binW_at, binW_as, binW_mi, binW_di, binW_mo, atI_0, atI_1, atI_2, ex_some, eqW_str, eqW_int, sz0, sz1, sz2, sz3, sz4, sz5, sz6, sz7, sz8, sz9, sz10, sz11, sz12, sz13, sz14, true_and, Bool.false_xor, Bool.true_xor, lb_cc, lb_nc, lb_cn, lb_nn, Nat.reduceBEq, Bool.and_true, Bool.true_and, Bool.false_and, Bool.and_false, beq_self_eq_true, binW_ms])
local macro_rules | `(tactic| walk_at "r") => `(tactic| ((try walk_at "s"); walk_at "e"; repeat (walk_at "s"; walk_at "e")))
local macro_rules | `(tactic| walk_at "w") => `(tactic| simp only [wpSs, wpS, wpT, wpE, wpEs, wpO, wpI, env0, Env.get, List.map, List.length, List.replicate, List.getElem?_cons_zero, List.getElem?_cons_succ, List.nil_append, List.cons_append, List.append_nil, tru, isiW, cmpW, List.set, Nat.reduceSub, Nat.reduceAdd, Bool.not_true, Bool.not_false, Bool.false_eq_true, if_true, if_false, reduceIte, ixW, biW, bmTy, sqW_t, sqW_s, binW_ai, binW_si, binW_at, binW_as, binW_mi, binW_di, binW_mo, atI_0, atI_1, atI_2, ex_some, eqW_str, eqW_int, sz0, sz1, sz2, sz3, sz4, sz5, sz6, sz7, sz11, true_and, Bool.false_xor, Bool.true_xor, lb_cc, lb_nc, lb_cn, lb_nn, Nat.reduceBEq, Bool.and_true, Bool.true_and, Bool.false_and, Bool.and_false, beq_self_eq_true])
local macro_rules | `(tactic| walk_at "q") => `(tactic| refine eqW_of rfl rfl (Nat.le_of_ble_eq_true rfl) ?_)
local macro_rules | `(tactic| walk_at "g") => `(tactic| (walk_at "r"; repeat (walk_at "q"; walk_at "r")))
/-! ### the law's orders -/
abbrev wGet : List Nat := [103, 101, 116]
abbrev wName : List Nat := [110, 97, 109, 101]
/-- an order of the words of a line -/
def ordS : List (List Nat) → Option Od
  | [a, b] => if b = [] then none else if a = wGet then (numP b).map Od.get else if a = wName ∧ nameB b = true then some (.nm b) else none
  | _ => none
theorem ordS_two (a b : List Nat) : ordS [a, b] = if b = [] then none else if a = wGet then (numP b).map Od.get else if a = wName ∧ nameB b = true then some (.nm b) else none := rfl
theorem spl_ne (c : Nat) : ∀ l, spl c l ≠ []
  | [] => by simp [spl]
  | a :: l => by
    unfold spl
    split
    · simp
    · split <;> simp
theorem jn_spl (c : Nat) : ∀ l, jn c (spl c l) = l
  | [] => rfl
  | a :: l => by
    have ih := jn_spl c l
    have hne := spl_ne c l
    unfold spl
    split
    · rename_i e
      cases hs : spl c l with
      | nil => exact absurd hs hne
      | cons x r => rw [hs] at ih; show ([] : List Nat) ++ c :: jn c (x :: r) = _; rw [ih, e]; rfl
    · cases hs : spl c l with
      | nil => exact absurd hs hne
      | cons x r =>
        rw [hs] at ih
        cases r with
        | nil => simp only [jn] at ih ⊢; rw [ih]
        | cons y r => simp only [jn, List.cons_append] at ih ⊢; rw [ih]
theorem spl_two {c : Nat} : ∀ {l : List Nat}, c ∈ l → ∃ a b r, spl c l = a :: b :: r
  | a :: l, h => by
    have hne := spl_ne c l
    unfold spl
    split
    · cases hs : spl c l with
      | nil => exact absurd hs hne
      | cons x r => exact ⟨_, _, _, rfl⟩
    · rename_i hn
      rcases List.mem_cons.mp h with e | h
      · exact absurd e.symm hn
      · obtain ⟨x, y, r, e⟩ := spl_two h
        rw [e]
        exact ⟨_, _, _, rfl⟩
theorem numP_32 {w : List Nat} (h : 32 ∈ w) : numP w = none := by
  have : w.all dig = false := by
    cases e : w.all dig with
    | false => rfl
    | true => rw [List.all_eq_true] at e; have := e 32 h; cases this
  unfold numP
  rw [if_pos (.inr (.inr this))]
theorem nameB_32 {w : List Nat} (h : 32 ∈ w) : nameB w = false := by
  cases e : nameB w with
  | false => rfl
  | true =>
    cases w with
    | nil => cases h
    | cons a r =>
      simp only [nameB, Bool.and_eq_true] at e
      rcases List.mem_cons.mp h with rfl | h
      · have := e.2.1; cases this
      · have := e.2.2
        rw [List.all_eq_true] at this
        have := this 32 h
        cases this
theorem ord_spl (l : List Nat) : ordP l = ordS (spl 32 l) := by
  by_cases h1 : l.take 4 = [103, 101, 116, 32]
  · have el : l = wGet ++ 32 :: l.drop 4 := by
      have := List.take_append_drop 4 l
      rw [h1] at this
      exact this.symm
    have ep : ordP l = (numP (l.drop 4)).map Od.get := by unfold ordP; rw [if_pos h1]
    rw [ep]
    generalize l.drop 4 = w at el
    subst el
    rw [spl_app (by decide)]
    by_cases hw : 32 ∈ w
    · obtain ⟨a, b, r, e⟩ := spl_two hw
      rw [e, numP_32 hw]
      rfl
    · rw [spl_free hw]
      rw [ordS_two]
      by_cases h0 : w = []
      · subst h0; rfl
      · rw [if_neg h0, if_pos rfl]
  · by_cases h2 : l.take 5 = [110, 97, 109, 101, 32]
    · have el : l = wName ++ 32 :: l.drop 5 := by
        have := List.take_append_drop 5 l
        rw [h2] at this
        exact this.symm
      have ep : ordP l = if nameB (l.drop 5) = true then some (.nm (l.drop 5)) else none := by
        unfold ordP
        rw [if_neg h1]
        cases nameB (l.drop 5) <;> simp [h2]
      rw [ep]
      generalize l.drop 5 = w at el
      subst el
      rw [spl_app (by decide)]
      by_cases hw : 32 ∈ w
      · obtain ⟨a, b, r, e⟩ := spl_two hw
        rw [e, nameB_32 hw]
        rfl
      · rw [spl_free hw]
        rw [ordS_two]
        by_cases h0 : w = []
        · subst h0; rfl
        · rw [if_neg h0, if_neg (show ¬ (wName = wGet) by decide)]
          cases nameB w <;> simp
    · have ep : ordP l = none := by unfold ordP; rw [if_neg h1, if_neg (fun h => h2 h.1)]
      rw [ep]
      have ej := jn_spl 32 l
      match hs : spl 32 l with
      | [] => rfl
      | [a] => rfl
      | [a, b] =>
        rw [hs] at ej
        have ej : a ++ 32 :: b = l := ej
        rw [ordS_two]
        by_cases h0 : b = []
        · rw [if_pos h0]
        · rw [if_neg h0]
          by_cases ha : a = wGet
          · exfalso; apply h1; rw [← ej, ha]; rfl
          · rw [if_neg ha]
            by_cases hb : a = wName
            · exfalso; apply h2; rw [← ej, hb]; rfl
            · rw [if_neg (fun h => hb h.1)]
      | _ :: _ :: _ :: _ => rfl
abbrev ordD (l : List Nat) : D := match ordS (spl 32 l) with
  | some o => encO o
  | none => .non
theorem aln_or (a : Nat) : (a == 97 || (a == 98 || (a == 99 || (a == 100 || (a == 101 || (a == 102 || (a == 103 || (a == 104 || (a == 105 || (a == 106 || (a == 107 || (a == 108 || (a == 109 || (a == 110 || (a == 111 || (a == 112 || (a == 113 || (a == 114 || (a == 115 || (a == 116 || (a == 117 || (a == 118 || (a == 119 || (a == 120 || (a == 121 || (a == 122 || (a == 48 || (a == 49 || (a == 50 || (a == 51 || (a == 52 || (a == 53 || (a == 54 || (a == 55 || (a == 56 || a == 57))))))))))))))))))))))))))))))))))) = (low a || dig a) := by
  rw [Bool.eq_iff_iff]
  simp only [low, dig, Bool.or_eq_true, beq_iff_eq, Bool.and_eq_true, decide_eq_true_eq]
  omega
/-- the signs of a text that are not so -/
def oddF (pr : Nat → Bool) : D → Option D
  | .str [c] => if pr c = true then none else some (.str [c])
  | _ => none
theorem odd_len (pr : Nat → Bool) : ∀ b : List Nat, decide ((0 : Int) < ((((b.map fun c => D.str [c]).filterMap (oddF pr)).length : Nat) : Int)) = !b.all pr
  | [] => rfl
  | c :: b => by
    have ih := odd_len pr b
    cases h : pr c with
    | true =>
      have : oddF pr (.str [c]) = none := by simp only [oddF, h, if_true]
      rw [List.map_cons, List.filterMap_cons, this, List.all_cons, h, Bool.true_and]
      exact ih
    | false =>
      have : oddF pr (.str [c]) = some (.str [c]) := by simp [oddF, h]
      rw [List.map_cons, List.filterMap_cons, this, List.all_cons, h, Bool.false_and]
      simp only [List.length_cons, Bool.not_false]
      exact decide_eq_true (by omega)
theorem odd_len0 (pr : Nat → Bool) (b : List Nat) : (((((b.map fun c => D.str [c]).filterMap (oddF pr)).length : Nat) : Int) == 0) = b.all pr := by
  have h := odd_len pr b
  generalize ((b.map fun c => D.str [c]).filterMap (oddF pr)).length = m at h
  cases ha : b.all pr with
  | true =>
    rw [ha] at h
    have := of_decide_eq_false h
    exact beq_iff_eq.mpr (by omega)
  | false =>
    rw [ha] at h
    have := of_decide_eq_true h
    exact beq_eq_false_iff_ne.mpr (by omega)
theorem two_of {L : List (List Nat)} (h : L.length = 2) : ∃ a b, L = [a, b] := by
  cases L with
  | nil => cases h
  | cons a L => cases L with
    | nil => cases h
    | cons b L => cases L with
      | nil => exact ⟨a, b, rfl⟩
      | cons c L => simp only [List.length_cons] at h; omega
theorem w_lorder {l : List Nat} {n : Nat} {S : Sto} {Q : QD} {E : QX} (lg : l.all (fun c => decide (c < 0x110000)) = true) (ll : l.length ≤ 1000) (q : ∀ S', Sx S S' → Q (ordD l) S') : (lvl prg (n + 1)).fn 19 [.str l] S Q E := by
  refine ⟨rfl, ?_⟩
  unfold ir19
  walk_at "s"; walk_at "e"
  unfold bmW
  dsimp only
  refine ⟨by decide, Nat.le_trans (show l.length + 2 ≤ 1000000 by omega) szl, fun p hp => ?_⟩
  have es : (Txt.split (st l) (st [32])).map (fun y => D.str y.cps.toList) = (spl 32 l).map D.str := by
    rw [← txt_split, List.map_map]; rfl
  rw [es]
  have x1 : Sx S (S.upd p (.lst ((spl 32 l).map D.str))) := Sx.new hp
  have h1 : (S.upd p (.lst ((spl 32 l).map D.str))) p = some (.lst ((spl 32 l).map D.str)) := Sto.upd_same
  have ej := jn_spl 32 l
  unfold ordD at q
  generalize (S.upd p (.lst ((spl 32 l).map D.str))) = S1 at x1 h1
  have len2 : (((spl 32 l).length : Int) == 2) = false → ordS (spl 32 l) = none := fun h => by
    have h := beq_eq_false_iff_ne.mp h
    match spl 32 l, h with
    | [], _ => rfl
    | [_], _ => rfl
    | [_, _], h => exact absurd rfl h
    | _ :: _ :: _ :: _, _ => rfl
  dsimp only
  walk_at "s"; walk_at "e"
  simp only [h1, List.length_map]
  cases hb : (((spl 32 l).length : Int) == 2) with
  | false =>
    have e0 := len2 hb
    rw [e0] at q
    walk_at "r"
    exact q S1 x1
  | true =>
    have hb := eq_of_beq hb
    obtain ⟨a, b, eab⟩ : ∃ a b, spl 32 l = [a, b] := two_of (by omega)
    rw [eab] at h1 ej q
    have ej : a ++ 32 :: b = l := ej
    have la : a.length ≤ 1000 := by have := congrArg List.length ej; simp at this; omega
    have lb : b.length ≤ 1000 := by have := congrArg List.length ej; simp at this; omega
    have vb : b.all (fun c => decide (c < 0x110000)) = true := by
      rw [← ej, List.all_append, Bool.and_eq_true] at lg
      exact (by simpa using lg.2)
    clear len2 hb
    walk_at "e"
    refine ⟨.str b, by rw [eab]; exact atI_1, ?_⟩
    walk_at "e"
    cases hb0 : (b == ([] : List Nat)) with
    | true =>
      have hb0 : b = [] := by simpa using hb0
      subst hb0
      walk_at "r"
      exact q S1 x1
    | false =>
      have hb0 : b ≠ [] := by simpa using hb0
      rw [ordS_two, if_neg hb0] at q
      walk_at "e"
      walk_at "s"
      walk_at "s"; walk_at "e"
      walk_at "s"; walk_at "e"
      simp only [h1]
      walk_at "e"
      cases ha : (a == wGet) with
      | true =>
        have ha : a = wGet := eq_of_beq ha
        subst ha
        rw [if_pos rfl] at q
        walk_at "e"
        walk_at "s"; walk_at "e"
        simp only [h1]
        refine ⟨.str b, atI_1, ?_⟩
        refine ⟨of_eq_true (sz_le (by omega)), fun r hr => ?_⟩
        have npr : p ≠ r := new_ne h1 hr
        refine goW_map (p := r) (N := 1000) (oddF dig) (fun _ _ _ _ => True.intro) _ [] _ (by rw [List.length_map]; simp only [List.length_nil]; omega) (fun d hd S2 acc K2 x2 h2 hk k => ?_) Sto.upd_same True.intro fun S2 x2 h2 _ => ?_
        · obtain ⟨c, _, rfl⟩ := List.mem_map.mp hd
          walk_at "e"
          rw [dig_or c]
          cases hc : dig c with
          | true =>
            have e : oddF dig (.str [c]) = none := by simp only [oddF, hc, if_true]
            rw [e] at k
            walk_at "e"
            exact k S2 (Sxb.refl r S2) (by simpa using h2)
          | false =>
            have e : oddF dig (.str [c]) = some (.str [c]) := by simp [oddF, hc]
            rw [e] at k
            walk_at "e"
            exact ⟨acc, h2, of_eq_true (sz_lt (by omega)), k _ Sxb.put (by rw [Sto.upd_same]; rfl)⟩
        · rw [List.nil_append] at h2
          have x3 : Sx S1 S2 := ((Sx.new hr).b.trans x2).of_new hr
          have h3 := x3 _ _ h1
          simp only [h2, odd_len]
          have h0 : 0 < b.length := List.length_pos_iff.mpr hb0
          cases hda : b.all dig with
          | false =>
            have en : numP b = none := by unfold numP; rw [if_pos (.inr (.inr hda))]
            rw [en] at q
            walk_at "r"
            exact q S2 (x1.trans x3)
          | true =>
            walk_at "e"
            simp only [h3]
            refine ⟨.str b, atI_1, ?_⟩
            dsimp only
            refine ⟨of_eq_true (sz_le (by omega)), ?_⟩
            cases c3 : decide ((3 : Int) < (b.length : Int)) with
            | true =>
              have c3 := of_decide_eq_true c3
              have en : numP b = none := by unfold numP; rw [if_pos (by omega)]
              rw [en] at q
              walk_at "r"
              exact q S2 (x1.trans x3)
            | false =>
              have c3 := of_decide_eq_false c3
              have hi := int_of (w := b) (by omega) (by omega) hda
              have en : numP b = if 1 < b.length ∧ b.headD 0 = 48 then none else if 400 < val b then none else some (val b) := by
                unfold numP
                rw [if_neg]
                rintro (h | h | h)
                · omega
                · omega
                · rw [hda] at h; cases h
              rw [en] at q
              walk_at "e"
              refine ⟨of_eq_true (sz_le (by omega)), ?_⟩
              have fin : ¬ (1 < b.length ∧ b.headD 0 = 48) → ∀ (v2 : D) (o3 : Option D), wpSs (lvl prg n) (.cons (.ret (.ite (.cmp .le (.bi .int (.cons (.ix (.var 1) (.lit (.int 1))) .nil)) (.lit (.int 400))) (.tup (.cons (.lit (.str [103, 101, 116])) (.cons (.bi .int (.cons (.ix (.var 1) (.lit (.int 1))) .nil)) .nil))) (.lit .non))) .nil) { nx := fun _ S' => Q .non S', rt := Q } (fun x _ S' => E x S') [some (.str l), some (.ref p), some v2, o3] S2 := fun hn v2 o3 => by
                rw [if_neg hn] at q
                walk_at "s"; walk_at "e"
                simp only [h3]
                refine ⟨.str b, atI_1, ?_⟩
                dsimp only
                refine ⟨_, hi, by omega, ?_⟩
                cases c4 : decide (((val b : Nat) : Int) ≤ 400) with
                | false =>
                  have c4 := of_decide_eq_false c4
                  rw [if_pos (by omega)] at q
                  walk_at "e"
                  exact q S2 (x1.trans x3)
                | true =>
                  have c4 := of_decide_eq_true c4
                  rw [if_neg (by omega)] at q
                  walk_at "e"
                  exact ⟨_, hi, by omega, q S2 (x1.trans x3)⟩
              cases c1 : decide ((1 : Int) < (b.length : Int)) with
              | false =>
                have c1 := of_decide_eq_false c1
                walk_at "e"
                walk_at "s"
                exact fin (by omega) _ _
              | true =>
                have c1 := of_decide_eq_true c1
                walk_at "e"
                obtain ⟨c, b', rfl⟩ : ∃ c b', b = c :: b' := by
                  cases b with
                  | nil => exact absurd rfl hb0
                  | cons c b' => exact ⟨c, b', rfl⟩
                refine ⟨of_eq_true (sz_le (by omega)), c, atI_0, ?_⟩
                cases c48 : (c == 48) with
                | true =>
                  have c48 := eq_of_beq c48
                  rw [if_pos ⟨by omega, c48⟩] at q
                  walk_at "r"
                  exact q S2 (x1.trans x3)
                | false =>
                  have c48 := beq_eq_false_iff_ne.mp c48
                  walk_at "e"
                  walk_at "s"
                  exact fin (fun h => c48 h.2) _ _
      | false =>
        have ha : a ≠ wGet := beq_eq_false_iff_ne.mp ha
        rw [if_neg ha] at q
        walk_at "e"
        walk_at "s"
        walk_at "s"; walk_at "e"
        simp only [h1]
        refine ⟨.str a, atI_0, ?_⟩
        walk_at "e"
        cases hn : (a == wName) with
        | false =>
          have hn : a ≠ wName := beq_eq_false_iff_ne.mp hn
          rw [if_neg (fun h => hn h.1)] at q
          walk_at "r"
          exact q S1 x1
        | true =>
          have hn : a = wName := eq_of_beq hn
          have h0 : 0 < b.length := List.length_pos_iff.mpr hb0
          walk_at "e"
          obtain ⟨c, b', rfl⟩ : ∃ c b', b = c :: b' := by
            cases b with
            | nil => exact absurd rfl hb0
            | cons c b' => exact ⟨c, b', rfl⟩
          simp only [h1]
          refine ⟨.str (c :: b'), atI_1, ?_⟩
          dsimp only
          refine ⟨of_eq_true (sz_le (by omega)), c, atI_0, ?_⟩
          walk_at "e"
          rw [low_or c]
          cases hlc : low c with
          | false =>
            have en : nameB (c :: b') = false := by simp [nameB, hlc]
            rw [if_neg (fun h => by rw [en] at h; cases h.2)] at q
            walk_at "r"
            exact q S1 x1
          | true =>
            walk_at "e"
            refine ⟨of_eq_true (sz_le (by simp only [List.length_cons] at lb; omega)), ?_⟩
            cases c12 : decide ((12 : Int) < ((b'.length + 1 : Nat) : Int)) with
            | true =>
              have c12 := of_decide_eq_true c12
              have en : nameB (c :: b') = false := by
                unfold nameB
                rw [decide_eq_false (show ¬ ((c :: b').length ≤ 12) by simp only [List.length_cons]; omega), Bool.and_false]
                rfl
              rw [if_neg (fun h => by rw [en] at h; cases h.2)] at q
              walk_at "r"
              exact q S1 x1
            | false =>
              have c12 := of_decide_eq_false c12
              walk_at "e"
              refine inW_tup (by simpa [gd] using vb) rfl (by simp [dd]) ?_
              walk_at "e"
              cases h3 : (108 == c && [101, 116] == b' || 105 == c && [110] == b') with
              | true =>
                have en : nameB (c :: b') = false := by
                  simp only [Bool.or_eq_true, Bool.and_eq_true, beq_iff_eq] at h3
                  rcases h3 with ⟨e, f⟩ | ⟨e, f⟩ <;> rw [← e, ← f] <;> rfl
                rw [if_neg (fun h => by rw [en] at h; cases h.2)] at q
                walk_at "r"
                exact q S1 x1
              | false =>
                have e3 : ((c :: b') == [108, 101, 116]) = false := beq_eq_false_iff_ne.mpr fun e => by
                  injection e with e f; subst e; subst f; cases h3
                have e4 : ((c :: b') == [105, 110]) = false := beq_eq_false_iff_ne.mpr fun e => by
                  injection e with e f; subst e; subst f; cases h3
                have en : nameB (c :: b') = (c :: b').all fun c => low c || dig c := by
                  unfold nameB
                  rw [decide_eq_true (show 1 ≤ (c :: b').length by simp), decide_eq_true (show (c :: b').length ≤ 12 by simp only [List.length_cons]; omega), e3, e4, List.all_cons]
                  dsimp only
                  rw [hlc]
                  rfl
                walk_at "e"
                walk_at "s"
                dsimp only
                walk_at "s"; walk_at "e"
                simp only [h1]
                refine ⟨.str (c :: b'), atI_1, ?_⟩
                generalize hB : c :: b' = B at *
                refine ⟨of_eq_true (sz_le (by omega)), fun r hr => ?_⟩
                have npr : p ≠ r := new_ne h1 hr
                refine goW_map (p := r) (N := 1000) (oddF fun c => low c || dig c) (fun _ _ _ _ => True.intro) _ [] _ (by rw [List.length_map]; simp only [List.length_nil]; omega) (fun d hd S2 acc K2 x2 h2 hk k => ?_) Sto.upd_same True.intro fun S2 x2 h2 _ => ?_
                · obtain ⟨c, _, rfl⟩ := List.mem_map.mp hd
                  walk_at "e"
                  refine ⟨of_eq_true (sz_le (by decide)), ?_⟩
                  rw [aln_or c]
                  cases hc : (low c || dig c) with
                  | true =>
                    have e : oddF (fun c => low c || dig c) (.str [c]) = none := by simp only [oddF, hc, if_true]
                    rw [e] at k
                    walk_at "e"
                    exact k S2 (Sxb.refl r S2) (by simpa using h2)
                  | false =>
                    have e : oddF (fun c => low c || dig c) (.str [c]) = some (.str [c]) := by simp [oddF, hc]
                    rw [e] at k
                    walk_at "e"
                    exact ⟨acc, h2, of_eq_true (sz_lt (by omega)), k _ Sxb.put (by rw [Sto.upd_same]; rfl)⟩
                · rw [List.nil_append] at h2
                  have x3 : Sx S1 S2 := ((Sx.new hr).b.trans x2).of_new hr
                  have h3 := x3 _ _ h1
                  simp only [h2, h3, odd_len0]
                  cases hal : B.all (fun c => low c || dig c) with
                  | false =>
                    rw [hal] at en
                    rw [if_neg (fun h => by rw [en] at h; cases h.2)] at q
                    walk_at "e"
                    exact q S2 (x1.trans x3)
                  | true =>
                    rw [hal] at en
                    rw [if_pos ⟨hn, en⟩] at q
                    walk_at "e"
                    first | exact q S2 (x1.trans x3) | exact ⟨.str B, atI_1, q S2 (x1.trans x3)⟩
end K49
end Mini
end L2
namespace L2
namespace Mini
namespace K49
open PySem PySem.Spec PyProof.Rows
local macro_rules | `(tactic| walk_at "s") => `(tactic| first | with_reducible refine st_set ?_ | with_reducible refine st_ife ?_ | with_reducible refine st_ret ?_ | with_reducible refine st_ex ?_ | with_reducible refine st_unp ?_ | with_reducible refine st_unpl ?_ | with_reducible refine st_unpa ?_ | with_reducible refine st_aug ?_ | with_reducible refine st_for ?_ | with_reducible refine st_whl ?_ | with_reducible refine st_nil ?_ | with_reducible refine st_setix ?_ | with_reducible refine st_raise ?_ | with_reducible refine st_try ?_ | with_reducible refine st_setat ?_ | with_reducible refine st_augat ?_ | with_reducible refine st_pass ?_ | with_reducible refine st_brk ?_ | with_reducible refine st_cnt ?_)
local macro_rules | `(tactic| walk_at "e") => `(tactic| try simp only [fget, fput, eq_self, Nat.reduceEqDiff, and_true, Int.reduceBEq, wpC, goW, List.map_cons, List.map_nil, deq, deqs, List.any_cons, List.any_nil, slW, cut_1, Int.cast_ofNat_Int, Int.natCast_zero, Int.natCast_one, Int.reduceLE, Int.reduceLT, Int.reduceNeg, Int.reduceAdd, Int.reduceSub, decide_true, decide_false, inW_chr, List.contains_cons, List.contains_nil, Bool.or_true, Bool.true_or, Bool.or_false, Bool.false_or, gd, gds, List.all_cons, List.all_nil, Nat.reduceLT, List.zip_cons_cons, List.zip_nil_left, List.foldl_cons, List.foldl_nil, wpT, wpE, wpEs, wpO, wpI, env0, Env.get, List.map, List.length, List.replicate, List.getElem?_cons_zero, List.getElem?_cons_succ, List.nil_append, List.cons_append, List.append_nil, tru, isiW, cmpW, List.set, Nat.reduceSub, Nat.reduceAdd, Bool.not_true, Bool.not_false, Bool.false_eq_true, if_true, if_false, reduceIte, ixW, biW, bmTy, augW, tgW, newW, wpPs, dmerge, sqW_t, sqW_s, binW_ai, binW_si, binW_at, binW_as, binW_mi, binW_di, binW_mo, atI_0, atI_1, atI_2, ex_some, eqW_str, eqW_int, sz0, sz1, sz2, sz3, sz4, sz5, sz6, sz7, sz8, sz9, sz10, sz11, sz12, sz13, sz14, true_and, Bool.false_xor, Bool.true_xor, lb_cc, lb_nc, lb_cn, lb_nn, Nat.reduceBEq, Bool.and_true, Bool.true_and, Bool.false_and, Bool.and_false, beq_self_eq_true, binW_ms])
local macro_rules | `(tactic| walk_at "r") => `(tactic| ((try walk_at "s"); walk_at "e"; repeat (walk_at "s"; walk_at "e")))
local macro_rules | `(tactic| walk_at "w") => `(tactic| simp only [wpSs, wpS, wpT, wpE, wpEs, wpO, wpI, env0, Env.get, List.map, List.length, List.replicate, List.getElem?_cons_zero, List.getElem?_cons_succ, List.nil_append, List.cons_append, List.append_nil, tru, isiW, cmpW, List.set, Nat.reduceSub, Nat.reduceAdd, Bool.not_true, Bool.not_false, Bool.false_eq_true, if_true, if_false, reduceIte, ixW, biW, bmTy, sqW_t, sqW_s, binW_ai, binW_si, binW_at, binW_as, binW_mi, binW_di, binW_mo, atI_0, atI_1, atI_2, ex_some, eqW_str, eqW_int, sz0, sz1, sz2, sz3, sz4, sz5, sz6, sz7, sz11, true_and, Bool.false_xor, Bool.true_xor, lb_cc, lb_nc, lb_cn, lb_nn, Nat.reduceBEq, Bool.and_true, Bool.true_and, Bool.false_and, Bool.and_false, beq_self_eq_true])
local macro_rules | `(tactic| walk_at "q") => `(tactic| refine eqW_of rfl rfl (Nat.le_of_ble_eq_true rfl) ?_)
local macro_rules | `(tactic| walk_at "g") => `(tactic| (walk_at "r"; repeat (walk_at "q"; walk_at "r")))
/-! ### the law's reader -/
structure Lr where
  l : Addr
  L : List Od
  m : Int
def Lr.row (f : Lr) : Row := (f.L, f.m)
/-- the law's rows: their orders in lists of a list, their numbers in a list; each but once -/
structure Ldg (S0 : Sto) (rb mb : Addr) (fs : List Lr) (S : Sto) : Prop where
  sx : Sx S0 S
  rs : S rb = some (.lst (fs.map fun f => .ref f.l))
  ms : S mb = some (.lst (fs.map fun f => .int f.m))
  at_ : ∀ f ∈ fs, S f.l = some (.lst (f.L.map encO))
  nw : ∀ a ∈ rb :: mb :: fs.map Lr.l, S0 a = none
  nd : (rb :: mb :: fs.map Lr.l).Nodup
theorem Ldg.put {S0 : Sto} {rb mb : Addr} {gs : List Lr} {f : Lr} {S : Sto} {L : List Od} {m : Int} (h : Ldg S0 rb mb (gs ++ [f]) S) : Ldg S0 rb mb (gs ++ [⟨f.l, L, m⟩]) ((S.upd f.l (.lst (L.map encO))).upd mb (.lst ((gs.map fun f => D.int f.m) ++ [.int m]))) := by
  have nd := h.nd
  have nw := h.nw
  rw [List.map_append] at nd nw
  have n1 : rb ≠ mb := fun e => by rw [List.nodup_cons] at nd; exact nd.1 (by rw [e]; exact List.mem_cons_self)
  have n2 : rb ≠ f.l := fun e => by rw [List.nodup_cons] at nd; exact nd.1 (by rw [e]; simp)
  have n3 : mb ≠ f.l := fun e => by rw [List.nodup_cons, List.nodup_cons] at nd; exact nd.2.1 (by rw [e]; simp)
  have n4 : ∀ g ∈ gs, g.l ≠ f.l ∧ g.l ≠ mb := fun g hg => by
    rw [List.nodup_cons, List.nodup_cons] at nd
    refine ⟨fun e => ?_, fun e => nd.2.1 (by rw [← e]; exact List.mem_append_left _ (List.mem_map_of_mem hg))⟩
    exact (List.nodup_append.mp nd.2.2).2.2 g.l (List.mem_map_of_mem hg) f.l (by simp) e
  refine ⟨fun a c hc => ?_, ?_, ?_, fun g hg => ?_, ?_, ?_⟩
  · rw [Sto.upd_ne (new_ne hc (nw mb (by simp))), Sto.upd_ne (new_ne hc (nw f.l (by simp)))]
    exact h.sx a c hc
  · rw [Sto.upd_ne n1, Sto.upd_ne n2, h.rs]; simp
  · rw [Sto.upd_same]; simp
  · rcases List.mem_append.mp hg with hg | hg
    · rw [Sto.upd_ne (n4 g hg).2, Sto.upd_ne (n4 g hg).1]
      exact h.at_ g (List.mem_append_left _ hg)
    · rw [List.mem_singleton.mp hg]
      show (Sto.upd _ mb _) f.l = _
      rw [Sto.upd_ne (Ne.symm n3), Sto.upd_same]
  · simpa using nw
  · simpa using nd
theorem Ldg.own {S0 : Sto} {rb mb : Addr} {fs : List Lr} {S : Sto} (h : Ldg S0 rb mb fs S) : ∀ a ∈ rb :: mb :: fs.map Lr.l, ∃ c, S a = some c := fun a ha => by
  rcases List.mem_cons.mp ha with rfl | ha
  · exact ⟨_, h.rs⟩
  rcases List.mem_cons.mp ha with rfl | ha
  · exact ⟨_, h.ms⟩
  obtain ⟨f, hf, rfl⟩ := List.mem_map.mp ha
  exact ⟨_, h.at_ f hf⟩
/-- a new row is opened -/
theorem Ldg.open_ {S0 : Sto} {rb mb l : Addr} {fs : List Lr} {S : Sto} (h : Ldg S0 rb mb fs S) (hl : S l = none) :
    Ldg S0 rb mb (fs ++ [⟨l, [], 0⟩]) (((S.upd l (.lst [])).upd rb (.lst ((fs.map fun f => D.ref f.l) ++ [.ref l]))).upd mb (.lst ((fs.map fun f => D.int f.m) ++ [.int 0]))) := by
  have ne : ∀ a ∈ rb :: mb :: fs.map Lr.l, a ≠ l := fun a ha => by
    obtain ⟨c, hc⟩ := h.own a ha
    exact new_ne hc hl
  have nd := h.nd
  have nd' := nd
  rw [List.nodup_cons, List.nodup_cons] at nd'
  have n1 : rb ≠ mb := fun e => nd'.1 (by rw [e]; exact List.mem_cons_self)
  have n2 : ∀ g ∈ fs, g.l ≠ rb ∧ g.l ≠ mb := fun g hg => ⟨fun e => nd'.1 (by rw [← e]; exact List.mem_cons_of_mem _ (List.mem_map_of_mem hg)), fun e => nd'.2.1 (by rw [← e]; exact List.mem_map_of_mem hg)⟩
  have lr := ne rb (by simp)
  have lm := ne mb (by simp)
  have s0 : S0 l = none := by
    cases e : S0 l with
    | none => rfl
    | some c => rw [h.sx l c e] at hl; cases hl
  refine ⟨fun a c hc => ?_, ?_, ?_, fun g hg => ?_, fun a ha => ?_, ?_⟩
  · rw [Sto.upd_ne (new_ne hc (h.nw mb (by simp))), Sto.upd_ne (new_ne hc (h.nw rb (by simp))), Sto.upd_ne (new_ne hc s0)]
    exact h.sx a c hc
  · rw [Sto.upd_ne n1, Sto.upd_same]; simp
  · rw [Sto.upd_same]; simp
  · rcases List.mem_append.mp hg with hg | hg
    · rw [Sto.upd_ne (n2 g hg).2, Sto.upd_ne (n2 g hg).1, Sto.upd_ne (ne g.l (List.mem_cons_of_mem _ (List.mem_cons_of_mem _ (List.mem_map_of_mem hg))))]
      exact h.at_ g hg
    · rw [List.mem_singleton.mp hg]
      show (Sto.upd _ mb _) l = _
      rw [Sto.upd_ne (Ne.symm lm), Sto.upd_ne (Ne.symm lr), Sto.upd_same]
      rfl
  · rw [List.map_append, ← List.cons_append, ← List.cons_append] at ha
    rcases List.mem_append.mp ha with ha | ha
    · exact h.nw a ha
    · simp only [List.map_cons, List.map_nil, List.mem_singleton] at ha
      rw [ha]; exact s0
  · rw [List.map_append, ← List.cons_append, ← List.cons_append]
    refine List.nodup_append.mpr ⟨nd, by simp, fun a ha b hb e => ?_⟩
    simp only [List.map_cons, List.map_nil, List.mem_singleton] at hb
    exact ne a ha (by rw [e, hb])
/-- the open row is left -/
theorem Ldg.shut {S0 : Sto} {rb mb : Addr} {gs : List Lr} {f : Lr} {S : Sto} (h : Ldg S0 rb mb (gs ++ [f]) S) : Ldg S0 rb mb gs ((S.upd rb (.lst (gs.map fun f => D.ref f.l))).upd mb (.lst (gs.map fun f => D.int f.m))) := by
  have nd := h.nd
  have nw := h.nw
  rw [List.map_append] at nd nw
  have nd' := nd
  rw [List.nodup_cons, List.nodup_cons] at nd'
  have n1 : rb ≠ mb := fun e => nd'.1 (by rw [e]; exact List.mem_cons_self)
  have n2 : ∀ g ∈ gs, g.l ≠ rb ∧ g.l ≠ mb := fun g hg => ⟨fun e => nd'.1 (by rw [← e]; exact List.mem_cons_of_mem _ (List.mem_append_left _ (List.mem_map_of_mem hg))), fun e => nd'.2.1 (by rw [← e]; exact List.mem_append_left _ (List.mem_map_of_mem hg))⟩
  refine ⟨fun a c hc => ?_, ?_, Sto.upd_same, fun g hg => ?_, fun a ha => nw a ?_, ?_⟩
  · rw [Sto.upd_ne (new_ne hc (nw mb (by simp))), Sto.upd_ne (new_ne hc (nw rb (by simp)))]
    exact h.sx a c hc
  · rw [Sto.upd_ne n1, Sto.upd_same]
  · rw [Sto.upd_ne (n2 g hg).2, Sto.upd_ne (n2 g hg).1]
    exact h.at_ g (List.mem_append_left _ hg)
  · rw [← List.cons_append, ← List.cons_append]; exact List.mem_append_left _ ha
  · rw [← List.cons_append, ← List.cons_append] at nd; exact (List.nodup_append.mp nd).1
end K49
end Mini
end L2
namespace L2
namespace Mini
namespace K49
open PySem PySem.Spec PyProof.Rows
local macro_rules | `(tactic| walk_at "s") => `(tactic| first | with_reducible refine st_set ?_ | with_reducible refine st_ife ?_ | with_reducible refine st_ret ?_ | with_reducible refine st_ex ?_ | with_reducible refine st_unp ?_ | with_reducible refine st_unpl ?_ | with_reducible refine st_unpa ?_ | with_reducible refine st_aug ?_ | with_reducible refine st_for ?_ | with_reducible refine st_whl ?_ | with_reducible refine st_nil ?_ | with_reducible refine st_setix ?_ | with_reducible refine st_raise ?_ | with_reducible refine st_try ?_ | with_reducible refine st_setat ?_ | with_reducible refine st_augat ?_ | with_reducible refine st_pass ?_ | with_reducible refine st_brk ?_ | with_reducible refine st_cnt ?_)
local macro_rules | `(tactic| walk_at "e") => `(tactic| try simp only [fget, fput, eq_self, Nat.reduceEqDiff, and_true, Int.reduceBEq, wpC, goW, List.map_cons, List.map_nil, deq, deqs, List.any_cons, List.any_nil, slW, cut_1, Int.cast_ofNat_Int, Int.natCast_zero, Int.natCast_one, Int.reduceLE, Int.reduceLT, Int.reduceNeg, Int.reduceAdd, Int.reduceSub, decide_true, decide_false, inW_chr, List.contains_cons, List.contains_nil, Bool.or_true, Bool.true_or, Bool.or_false, Bool.false_or, gd, gds, List.all_cons, List.all_nil, Nat.reduceLT, List.zip_cons_cons, List.zip_nil_left, List.foldl_cons, List.foldl_nil, wpT, wpE, wpEs, wpO, wpI, env0, Env.get, List.map, List.length, List.replicate, List.getElem?_cons_zero, List.getElem?_cons_succ, List.nil_append, List.cons_append, List.append_nil, tru, isiW, cmpW, List.set, Nat.reduceSub, Nat.reduceAdd, Bool.not_true, Bool.not_false, Bool.false_eq_true, if_true, if_false, reduceIte, ixW, biW, bmTy, augW, tgW, newW, wpPs, dmerge, sqW_t, sqW_s, binW_ai, binW_si, binW_at, binW_as, binW_mi, binW_di, binW_mo, atI_0, atI_1, atI_2, ex_some, eqW_str, eqW_int, sz0, sz1, sz2, sz3, sz4, sz5, sz6, sz7, sz8, sz9, sz10, sz11, sz12, sz13, sz14, true_and, Bool.false_xor, Bool.true_xor, lb_cc, lb_nc, lb_cn, lb_nn, Nat.reduceBEq, Bool.and_true, Bool.true_and, Bool.false_and, Bool.and_false, beq_self_eq_true, binW_ms])
local macro_rules | `(tactic| walk_at "r") => `(tactic| ((try walk_at "s"); walk_at "e"; repeat (walk_at "s"; walk_at "e")))
local macro_rules | `(tactic| walk_at "w") => `(tactic| simp only [wpSs, wpS, wpT, wpE, wpEs, wpO, wpI, env0, Env.get, List.map, List.length, List.replicate, List.getElem?_cons_zero, List.getElem?_cons_succ, List.nil_append, List.cons_append, List.append_nil, tru, isiW, cmpW, List.set, Nat.reduceSub, Nat.reduceAdd, Bool.not_true, Bool.not_false, Bool.false_eq_true, if_true, if_false, reduceIte, ixW, biW, bmTy, sqW_t, sqW_s, binW_ai, binW_si, binW_at, binW_as, binW_mi, binW_di, binW_mo, atI_0, atI_1, atI_2, ex_some, eqW_str, eqW_int, sz0, sz1, sz2, sz3, sz4, sz5, sz6, sz7, sz11, true_and, Bool.false_xor, Bool.true_xor, lb_cc, lb_nc, lb_cn, lb_nn, Nat.reduceBEq, Bool.and_true, Bool.true_and, Bool.false_and, Bool.and_false, beq_self_eq_true])
local macro_rules | `(tactic| walk_at "q") => `(tactic| refine eqW_of rfl rfl (Nat.le_of_ble_eq_true rfl) ?_)
local macro_rules | `(tactic| walk_at "g") => `(tactic| (walk_at "r"; repeat (walk_at "q"; walk_at "r")))
/-! ### _law_read -/
theorem Ldg.last {S0 : Sto} {rb mb : Addr} {gs : List Lr} {f : Lr} {S : Sto} (h : Ldg S0 rb mb (gs ++ [f]) S) : S rb = some (.lst (gs.map (fun f => D.ref f.l) ++ [.ref f.l])) ∧ S mb = some (.lst (gs.map (fun f => D.int f.m) ++ [.int f.m])) := by
  rw [h.rs, h.ms]; simp
theorem Ldg.top {S0 : Sto} {rb mb : Addr} {gs : List Lr} {f : Lr} {S : Sto} (h : Ldg S0 rb mb (gs ++ [f]) S) : S f.l = some (.lst (f.L.map encO)) := h.at_ f (by simp)
theorem Ldg.on {S0 : Sto} {rb mb : Addr} {fs : List Lr} {S S' : Sto} (h : Ldg S0 rb mb fs S) (x : Sx S S') : Ldg S0 rb mb fs S' :=
  ⟨h.sx.trans x, x _ _ h.rs, x _ _ h.ms, fun f hf => x _ _ (h.at_ f hf), h.nw, h.nd⟩
theorem setix_last {a : Addr} {ds : List D} {x v : D} {S : Sto} {Q : Sto → Prop} (h : S a = some (.lst (ds ++ [x]))) (q : Q (S.upd a (.lst (ds ++ [v])))) : setixW (.ref a) (.int (-1)) v S Q := by
  unfold setixW
  dsimp only
  rw [h]
  dsimp only
  refine ⟨ds.length, ?_, ?_⟩
  · unfold ixN
    rw [if_neg (by omega), if_pos (by simp only [List.length_append, List.length_cons, List.length_nil]; omega)]
    simp only [List.length_append, List.length_cons, List.length_nil, Option.some.injEq]
    omega
  · rw [List.set_append_right _ _ (Nat.le_refl _), Nat.sub_self]
    exact q
theorem Ldg.mbl {S0 : Sto} {rb mb : Addr} {gs : List Lr} {f : Lr} {S : Sto} (h : Ldg S0 rb mb (gs ++ [f]) S) : mb ≠ f.l := fun e => by
  have nd := h.nd
  rw [List.nodup_cons, List.nodup_cons] at nd
  exact nd.2.1 (by rw [e]; simp)
theorem Ldg.rbm {S0 : Sto} {rb mb : Addr} {fs : List Lr} {S : Sto} (h : Ldg S0 rb mb fs S) : mb ≠ rb := fun e => by
  have nd := h.nd
  rw [List.nodup_cons] at nd
  exact nd.1 (by rw [e]; simp)
/-- what the law's reader tells -/
def lrD (ls : List (List Nat)) : D := match rdAll ls 0 [([], 0)] with
  | .inl k => .int (k : Int)
  | .inr [(L, m)] => if m = 1 then .tup (L.map encO) else .int (ls.length : Int)
  | .inr _ => .int (ls.length : Int)
theorem w_lread {ls : List (List Nat)} {a : Addr} {n : Nat} {S : Sto} {Q : QD} {E : QX} (ha : S a = some (.lst (ls.map .str))) (hv : ∀ l ∈ ls, l.all (fun c => decide (c < 0x110000)) = true ∧ l.length ≤ 1000) (hn : ls.length ≤ 80) (q : ∀ S', Sx S S' → Q (lrD ls) S') : (lvl prg (n + 3)).fn 20 [.ref a] S Q E := by
  refine ⟨rfl, ?_⟩
  have tl : ∀ G K X σ S', wpSs G ir20 K X σ S' = wpSs G (.cons (.set 1 (.lst (.cons (.lst .nil) .nil))) (.cons (.set 2 (.lst (.cons (.lit (.int 0)) .nil))) (.cons (.for_ (.nm 3) (.rng (.bi .len (.cons (.var 0) .nil))) (forBody ir20)) (dropS 3 ir20)))) K X σ S' := fun _ _ _ _ _ => rfl
  rw [tl]
  walk_at "s"; walk_at "e"
  intro l hl rb hrb
  have n1 : rb ≠ l := fun e => by rw [e, Sto.upd_same] at hrb; cases hrb
  walk_at "s"; walk_at "e"
  intro mb hmb
  have n2 : mb ≠ rb := fun e => by rw [e, Sto.upd_same] at hmb; cases hmb
  have n3 : mb ≠ l := fun e => by rw [Sto.upd_ne n2, e, Sto.upd_same] at hmb; cases hmb
  have hrb' : S rb = none := by rw [Sto.upd_ne n1] at hrb; exact hrb
  have hmb' : S mb = none := by rw [Sto.upd_ne n2, Sto.upd_ne n3] at hmb; exact hmb
  have h0 : Ldg S rb mb [⟨l, [], 0⟩] (((S.upd l (.lst [])).upd rb (.lst [.ref l])).upd mb (.lst [.int 0])) := by
    refine ⟨((Sx.new hl).trans (Sx.new hrb)).trans (Sx.new hmb), ?_, Sto.upd_same, fun f hf => ?_, fun a ha => ?_, ?_⟩
    · rw [Sto.upd_ne (Ne.symm n2), Sto.upd_same]; rfl
    · rw [List.mem_singleton.mp hf]
      show (Sto.upd _ mb _) l = _
      rw [Sto.upd_ne (Ne.symm n3), Sto.upd_ne (Ne.symm n1), Sto.upd_same]; rfl
    · simp only [List.map_cons, List.map_nil, List.mem_cons, List.not_mem_nil, or_false] at ha
      rcases ha with rfl | rfl | rfl
      · exact hrb'
      · exact hmb'
      · exact hl
    · simp only [List.map_cons, List.map_nil, List.nodup_cons, List.mem_cons, List.not_mem_nil, or_false, not_or, not_false_eq_true, List.nodup_nil, and_true]
      exact ⟨⟨Ne.symm n2, n1⟩, n3⟩
  generalize (((S.upd l (.lst [])).upd rb (.lst [.ref l])).upd mb (.lst [.int 0])) = S1 at h0
  have ha1 := h0.sx _ _ ha
  generalize hT : dropS 3 ir20 = T
  walk_at "s"; walk_at "e"
  simp only [ha1, List.length_map]
  refine ⟨by omega, by omega, ?_⟩
  rw [show rngD 0 ((ls.length : Int)).toNat = (List.range' 0 ls.length).map fun (j : Nat) => D.int (j : Int) from by simp [rngD, List.range_eq_range']]
  have go : ∀ (j k : Nat) (fs : List Lr) (o3 o4 o5 : Option D) (S3 : Sto), Ldg S rb mb fs S3 → Gd (fs.map Lr.row) k → k + j = ls.length → rdAll (ls.drop k) k (fs.map Lr.row) = rdAll ls 0 [([], 0)] →
      forW (fun _ => True) (.nm 3) (fun K σ S => wpSs (lvl prg (n + 2)) (forBody ir20) K (fun x _ S' => E x S') σ S) { nx := fun σ' S' => wpSs (lvl prg (n + 2)) T { nx := fun _ S' => Q .non S', rt := Q } (fun x _ S' => E x S') σ' S', rt := Q } ((List.range' k j).map fun (j : Nat) => D.int (j : Int)) [some (.ref a), some (.ref rb), some (.ref mb), o3, o4, o5] S3 := by
    intro j
    induction j with
    | zero =>
      intro k fs o3 o4 o5 S3 h g hk he
      have hk : k = ls.length := by omega
      subst hk
      rw [List.drop_length] at he
      refine ⟨trivial, ?_⟩
      subst hT
      dsimp only [dropS, ir20]
      cases fs with
      | nil => exact absurd rfl g.ne
      | cons f fs =>
        have hf := h.at_ f List.mem_cons_self
        have ha3 := h.sx _ _ ha
        have qq := q S3 h.sx
        unfold lrD at qq
        rw [← he] at qq
        simp only [rdAll, List.map_cons, Lr.row] at qq
        walk_at "s"; walk_at "e"
        simp only [h.rs, List.length_map]
        cases hb : (((f :: fs).length : Int) == 1) with
        | false =>
          have hb := beq_eq_false_iff_ne.mp hb
          walk_at "e"
          simp only [ha3, List.length_map]
          cases fs with
          | nil => exact absurd rfl hb
          | cons f2 fs => simpa using qq
        | true =>
          have hb := eq_of_beq hb
          have ef : fs = [] := List.eq_nil_of_length_eq_zero (by simp only [List.length_cons] at hb; omega)
          subst ef
          walk_at "e"
          simp only [h.ms]
          walk_at "e"
          simp only [List.map_nil] at qq
          cases hm : (f.m == 1) with
          | false =>
            have hm := beq_eq_false_iff_ne.mp hm
            rw [if_neg hm] at qq
            walk_at "e"
            simp only [ha3, List.length_map]
            exact qq
          | true =>
            have hm := eq_of_beq hm
            rw [if_pos hm] at qq
            walk_at "e"
            simp only [h.rs]
            walk_at "e"
            refine ⟨_, rd_lst hf, ?_⟩
            exact qq
    | succ j ih =>
      intro k fs o3 o4 o5 S3 h g hk he
      have hlt : k < ls.length := by omega
      have ed := List.drop_eq_getElem_cons hlt
      obtain ⟨l, hl⟩ : ∃ l, l = ls[k] := ⟨_, rfl⟩
      rw [ed, ← hl] at he
      have hat : atI (ls.map D.str) (k : Int) = some (.str l) := by rw [atI_nat, List.getElem?_map, List.getElem?_eq_getElem hlt, hl]; rfl
      have ha3 := h.sx _ _ ha
      have hvl := hv l (by rw [hl]; exact List.getElem_mem hlt)
      rcases snoc_cases fs with rfl | ⟨gs, f, rfl⟩
      · exact absurd rfl g.ne
      have er : (gs ++ [f]).map Lr.row = gs.map Lr.row ++ [(f.L, f.m)] := by rw [List.map_append]; rfl
      have erL : rdL l ((gs ++ [f]).map Lr.row) = rdL l (gs.map Lr.row ++ [(f.L, f.m)]) := by rw [er]
      rw [rdL_last] at erL
      have bad : ∀ S', Sx S S' → rdL l ((gs ++ [f]).map Lr.row) = none → Q (.int ((k : Int) + 1)) S' := by
        intro S' x' en
        have := q S' x'
        unfold lrD at this
        rw [← he] at this
        simp only [rdAll, en] at this
        exact this
      have more : ∀ fs' o4 o5 S4, rdL l ((gs ++ [f]).map Lr.row) = some (fs'.map Lr.row) → Ldg S rb mb fs' S4 → _ := fun fs' o4 o5 S4 e4 h4 => ih (k + 1) fs' (some (.int (k : Int))) o4 o5 S4 h4 (g.step e4) (by omega) (by rw [← he]; simp only [rdAll, e4])
      have gl : ∀ x ∈ gs ++ [f], x.L.length ≤ 5000 := fun x hx => by
        have := len_rT _ x.row (List.mem_map_of_mem hx)
        have := g.tT
        simp only [Lr.row] at *
        omega
      have fl := gl f (by simp)
      have hln := g.len
      simp only [List.length_map, List.length_append, List.length_cons, List.length_nil] at hln
      have sz1' : (f.L.map encO).length < sizeLine := of_eq_true (sz_lt (by rw [List.length_map]; omega))
      rw [List.range'_succ, List.map_cons]
      refine forW_step trivial rfl fun K' knx _ krt _ => ?_
      dsimp only [forBody, ir20]
      walk_at "s"; walk_at "e"
      simp only [ha3]
      refine ⟨.str l, hat, ?_⟩
      walk_at "e"
      cases c1 : (l == lCall) with
      | true =>
        have c1 := eq_of_beq c1
        rw [if_pos c1] at erL
        walk_at "e"
        walk_at "s"; walk_at "e"
        simp only [h.last.2]
        refine ⟨.int f.m, atI_last, ?_⟩
        walk_at "e"
        cases hm : decide (f.m < 2) with
        | true =>
          have hm := of_decide_eq_true hm
          rw [if_pos hm] at erL
          walk_at "e"
          walk_at "s"; walk_at "e"
          exact krt _ _ (bad _ h.sx erL)
        | false =>
          have hm := of_decide_eq_false hm
          rw [if_neg hm] at erL
          walk_at "e"
          walk_at "s"
          walk_at "s"; walk_at "e"
          simp only [h.last.1]
          refine ⟨.ref f.l, atI_last, ?_⟩
          walk_at "e"
          refine ⟨⟨_, h.top⟩, bm_app h.top sz1' ?_⟩
          have m1 : (S3.upd f.l (.lst (f.L.map encO ++ [.tup [.str [99, 97, 108, 108]]]))) mb = some (.lst (gs.map (fun f => D.int f.m) ++ [.int f.m])) := by rw [Sto.upd_ne h.mbl]; exact h.last.2
          walk_at "s"; walk_at "e"
          simp only [m1]
          refine ⟨.int f.m, atI_last, ?_⟩
          walk_at "e"
          refine setix_last m1 ?_
          have hp := h.put (L := f.L ++ [.call]) (m := f.m - 1)
          have e2 : f.L.map encO ++ [D.tup [D.str [99, 97, 108, 108]]] = (f.L ++ [Od.call]).map encO := by rw [List.map_append]; rfl
          rw [e2]
          walk_at "s"
          refine knx _ _ (more _ _ _ _ (by rw [erL, List.map_append]; rfl) hp)
      | false =>
        have c1 := beq_eq_false_iff_ne.mp c1
        rw [if_neg c1] at erL
        walk_at "e"
        walk_at "s"; walk_at "e"
        simp only [ha3]
        refine ⟨.str l, hat, ?_⟩
        walk_at "e"
        cases c2 : (l == lClose) with
        | true =>
          have c2 := eq_of_beq c2
          rw [if_pos c2] at erL
          walk_at "e"
          walk_at "s"; walk_at "e"
          refine ⟨⟨_, h.rs⟩, fun x hx => ?_⟩
          have hr2 : (S3.upd x (.lst [])) rb = some (.lst ((gs ++ [f]).map fun f => D.ref f.l)) := by rw [Sto.upd_ne (new_ne h.rs hx)]; exact h.rs
          refine bm_app hr2 (of_eq_true (sz_lt (by simp; omega))) ?_
          walk_at "s"; walk_at "e"
          have hm2 : ((S3.upd x (.lst [])).upd rb (.lst ((gs ++ [f]).map (fun f => D.ref f.l) ++ [.ref x]))) mb = some (.lst ((gs ++ [f]).map fun f => D.int f.m)) := by rw [Sto.upd_ne h.rbm, Sto.upd_ne (new_ne h.ms hx)]; exact h.ms
          refine ⟨⟨_, hm2⟩, bm_app hm2 (of_eq_true (sz_lt (by simp; omega))) ?_⟩
          walk_at "s"
          refine knx _ _ (more _ _ _ _ (by rw [erL, List.map_append, er]; rfl) (h.open_ hx))
        | false =>
          have c2 := beq_eq_false_iff_ne.mp c2
          rw [if_neg c2] at erL
          walk_at "e"
          walk_at "s"; walk_at "e"
          simp only [ha3]
          refine ⟨.str l, hat, ?_⟩
          walk_at "e"
          cases c3 : (l == lEnd) with
          | true =>
            have c3 := eq_of_beq c3
            rw [if_pos c3] at erL
            walk_at "e"
            walk_at "s"; walk_at "e"
            simp only [h.rs, List.length_map]
            cases h1 : (((gs ++ [f]).length : Int) == 1) with
            | true =>
              have h1 := eq_of_beq h1
              simp only [List.length_append, List.length_cons, List.length_nil] at h1
              have eg : gs = [] := List.length_eq_zero_iff.mp (by omega)
              subst eg
              walk_at "e"
              walk_at "s"; walk_at "e"
              exact krt _ _ (bad _ h.sx erL)
            | false =>
              have h1 := beq_eq_false_iff_ne.mp h1
              simp only [List.length_append, List.length_cons, List.length_nil] at h1
              walk_at "e"
              simp only [h.last.2]
              refine ⟨.int f.m, atI_last, ?_⟩
              walk_at "e"
              rcases snoc_cases gs with rfl | ⟨gs', g', rfl⟩
              · simp at h1
              have eR : ((gs' ++ [g']).map Lr.row).reverse = (g'.L, g'.m) :: (gs'.map Lr.row).reverse := by rw [List.map_append, List.reverse_append]; rfl
              rw [eR] at erL
              dsimp only at erL
              cases hm : (f.m == 1) with
              | false =>
                have hm := beq_eq_false_iff_ne.mp hm
                rw [if_pos hm] at erL
                walk_at "e"
                walk_at "s"; walk_at "e"
                exact krt _ _ (bad _ h.sx erL)
              | true =>
                have hm := eq_of_beq hm
                rw [if_neg (fun h => h hm), List.reverse_reverse] at erL
                have nd := h.nd
                rw [List.nodup_cons] at nd
                have nlr : f.l ≠ rb := fun e => nd.1 (by rw [← e]; simp)
                have hs := h.shut
                walk_at "e"
                walk_at "s"
                walk_at "s"; walk_at "e"
                refine ⟨⟨_, h.last.1⟩, bm_pop h.last.1 ?_⟩
                refine ⟨_, rd_lst (by rw [Sto.upd_ne nlr]; exact h.top), ?_⟩
                have hm2 : (S3.upd rb (.lst ((gs' ++ [g']).map fun f => D.ref f.l))) mb = some (.lst ((gs' ++ [g']).map (fun f => D.int f.m) ++ [.int f.m])) := by rw [Sto.upd_ne h.rbm]; exact h.last.2
                walk_at "s"; walk_at "e"
                refine ⟨⟨_, hm2⟩, bm_pop hm2 ?_⟩
                generalize ((S3.upd rb (.lst ((gs' ++ [g']).map fun f => D.ref f.l))).upd mb (.lst ((gs' ++ [g']).map fun f => D.int f.m))) = S4 at hs
                have g1 := gl g' (by simp)
                walk_at "s"; walk_at "e"
                simp only [hs.last.1]
                refine ⟨.ref g'.l, atI_last, ?_⟩
                walk_at "e"
                refine ⟨⟨_, hs.top⟩, bm_app hs.top (of_eq_true (sz_lt (by rw [List.length_map]; omega))) ?_⟩
                have e2 : g'.L.map encO ++ [D.tup [D.str [99, 108, 111, 115, 101], D.tup (f.L.map encO)]] = (g'.L ++ [Od.close (ofL f.L)]).map encO := by
                  rw [List.map_append]
                  show _ = g'.L.map encO ++ [D.tup [sCs, D.tup (encC (ofL f.L))]]
                  rw [encC_ofL]
                rw [e2]
                have m1 : (S4.upd g'.l (.lst ((g'.L ++ [Od.close (ofL f.L)]).map encO))) mb = some (.lst (gs'.map (fun f => D.int f.m) ++ [.int g'.m])) := by rw [Sto.upd_ne hs.mbl]; exact hs.last.2
                walk_at "s"; walk_at "e"
                simp only [m1]
                refine ⟨.int g'.m, atI_last, ?_⟩
                walk_at "e"
                refine setix_last m1 ?_
                walk_at "s"
                refine knx _ _ (ih (k + 1) _ _ _ _ _ (hs.put (L := g'.L ++ [.close (ofL f.L)]) (m := g'.m + 1)) (g.step (by rw [erL, List.map_append]; rfl)) (by omega) (by rw [← he]; simp only [rdAll, erL]; rw [List.map_append]; rfl))
          | false =>
            have c3 := beq_eq_false_iff_ne.mp c3
            rw [if_neg c3] at erL
            walk_at "e"
            walk_at "s"; walk_at "e"
            simp only [ha3]
            refine ⟨.str l, hat, ?_⟩
            walk_at "e"
            refine w_lorder (n := n + 1) hvl.1 hvl.2 fun S4 x4 => ?_
            have ho := ord_spl l
            have h4 := h.on x4
            cases eo : ordP l with
            | none =>
              have eD : ordD l = .non := by unfold ordD; rw [← ho, eo]
              rw [eo] at erL
              rw [eD]
              walk_at "s"; walk_at "e"
              walk_at "s"; walk_at "e"
              exact krt _ _ (bad _ h4.sx erL)
            | some o =>
              have eD : ordD l = encO o := by unfold ordD; rw [← ho, eo]
              obtain ⟨ds, eds⟩ : ∃ ds, encO o = .tup ds := by cases o <;> exact ⟨_, rfl⟩
              rw [eo] at erL
              rw [eD, eds]
              walk_at "s"; walk_at "e"
              walk_at "s"
              walk_at "s"; walk_at "e"
              simp only [h4.last.1]
              refine ⟨.ref f.l, atI_last, ?_⟩
              walk_at "e"
              refine ⟨⟨_, h4.top⟩, bm_app h4.top sz1' ?_⟩
              have m1 : (S4.upd f.l (.lst (f.L.map encO ++ [.tup ds]))) mb = some (.lst (gs.map (fun f => D.int f.m) ++ [.int f.m])) := by rw [Sto.upd_ne h4.mbl]; exact h4.last.2
              walk_at "s"; walk_at "e"
              simp only [m1]
              refine ⟨.int f.m, atI_last, ?_⟩
              walk_at "e"
              refine setix_last m1 ?_
              have e2 : f.L.map encO ++ [.tup ds] = (f.L ++ [o]).map encO := by rw [List.map_append, ← eds]; rfl
              rw [e2]
              walk_at "s"
              refine knx _ _ (more _ _ _ _ (by rw [erL, List.map_append]; rfl) (h4.put (L := f.L ++ [o]) (m := f.m + 1)))
  exact go ls.length 0 [⟨l, [], 0⟩] none none none S1 h0 Gd.start (by omega) (by rw [List.drop_zero]; rfl)
end K49
end Mini
end L2
namespace L2
namespace Mini
namespace K49
open PySem PySem.Spec PyProof.Rows
local macro_rules | `(tactic| walk_at "s") => `(tactic| first | with_reducible refine st_set ?_ | with_reducible refine st_ife ?_ | with_reducible refine st_ret ?_ | with_reducible refine st_ex ?_ | with_reducible refine st_unp ?_ | with_reducible refine st_unpl ?_ | with_reducible refine st_unpa ?_ | with_reducible refine st_aug ?_ | with_reducible refine st_for ?_ | with_reducible refine st_whl ?_ | with_reducible refine st_nil ?_ | with_reducible refine st_setix ?_ | with_reducible refine st_raise ?_ | with_reducible refine st_try ?_ | with_reducible refine st_setat ?_ | with_reducible refine st_augat ?_ | with_reducible refine st_pass ?_ | with_reducible refine st_brk ?_ | with_reducible refine st_cnt ?_)
local macro_rules | `(tactic| walk_at "e") => `(tactic| try simp only [fget, fput, eq_self, Nat.reduceEqDiff, and_true, Int.reduceBEq, wpC, goW, List.map_cons, List.map_nil, deq, deqs, List.any_cons, List.any_nil, slW, cut_1, Int.cast_ofNat_Int, Int.natCast_zero, Int.natCast_one, Int.reduceLE, Int.reduceLT, Int.reduceNeg, Int.reduceAdd, Int.reduceSub, decide_true, decide_false, inW_chr, List.contains_cons, List.contains_nil, Bool.or_true, Bool.true_or, Bool.or_false, Bool.false_or, gd, gds, List.all_cons, List.all_nil, Nat.reduceLT, List.zip_cons_cons, List.zip_nil_left, List.foldl_cons, List.foldl_nil, wpT, wpE, wpEs, wpO, wpI, env0, Env.get, List.map, List.length, List.replicate, List.getElem?_cons_zero, List.getElem?_cons_succ, List.nil_append, List.cons_append, List.append_nil, tru, isiW, cmpW, List.set, Nat.reduceSub, Nat.reduceAdd, Bool.not_true, Bool.not_false, Bool.false_eq_true, if_true, if_false, reduceIte, ixW, biW, bmTy, augW, tgW, newW, wpPs, dmerge, sqW_t, sqW_s, binW_ai, binW_si, binW_at, binW_as, binW_mi, binW_di, binW_mo, atI_0, atI_1, atI_2, ex_some, eqW_str, eqW_int, sz0, sz1, sz2, sz3, sz4, sz5, sz6, sz7, sz8, sz9, sz10, sz11, sz12, sz13, sz14, true_and, Bool.false_xor, Bool.true_xor, lb_cc, lb_nc, lb_cn, lb_nn, Nat.reduceBEq, Bool.and_true, Bool.true_and, Bool.false_and, Bool.and_false, beq_self_eq_true, binW_ms])
local macro_rules | `(tactic| walk_at "r") => `(tactic| ((try walk_at "s"); walk_at "e"; repeat (walk_at "s"; walk_at "e")))
local macro_rules | `(tactic| walk_at "w") => `(tactic| simp only [wpSs, wpS, wpT, wpE, wpEs, wpO, wpI, env0, Env.get, List.map, List.length, List.replicate, List.getElem?_cons_zero, List.getElem?_cons_succ, List.nil_append, List.cons_append, List.append_nil, tru, isiW, cmpW, List.set, Nat.reduceSub, Nat.reduceAdd, Bool.not_true, Bool.not_false, Bool.false_eq_true, if_true, if_false, reduceIte, ixW, biW, bmTy, sqW_t, sqW_s, binW_ai, binW_si, binW_at, binW_as, binW_mi, binW_di, binW_mo, atI_0, atI_1, atI_2, ex_some, eqW_str, eqW_int, sz0, sz1, sz2, sz3, sz4, sz5, sz6, sz7, sz11, true_and, Bool.false_xor, Bool.true_xor, lb_cc, lb_nc, lb_cn, lb_nn, Nat.reduceBEq, Bool.and_true, Bool.true_and, Bool.false_and, Bool.and_false, beq_self_eq_true])
local macro_rules | `(tactic| walk_at "q") => `(tactic| refine eqW_of rfl rfl (Nat.le_of_ble_eq_true rfl) ?_)
local macro_rules | `(tactic| walk_at "g") => `(tactic| (walk_at "r"; repeat (walk_at "q"; walk_at "r")))
/-! ### the lines of a code are read as that code -/
/-- a line that can be joined, split and told -/
abbrev Lk (l : List Nat) : Prop := l.all (fun c => decide (c < 0x110000)) = true ∧ l.length ≤ 20 ∧ 10 ∉ l
theorem istr_ok : ∀ n : Nat, n < 401 → numP (istr (n : Int)) = some n ∧ (istr (n : Int)).all (fun c => decide (48 ≤ c) && decide (c ≤ 57)) = true ∧ (istr (n : Int)).length ≤ 3 := by decide +kernel
theorem all_dig {l : List Nat} (h : l.all (fun c => decide (48 ≤ c) && decide (c ≤ 57)) = true) : ∀ c ∈ l, 48 ≤ c ∧ c ≤ 57 := fun c hc => by
  have := List.all_eq_true.mp h c hc
  simp only [Bool.and_eq_true, decide_eq_true_eq] at this
  exact this
theorem name_ge {w : List Nat} (h : nameB w = true) : ∀ c ∈ w, 48 ≤ c ∧ c ≤ 122 := by
  cases w with
  | nil => cases h
  | cons a r =>
    simp only [nameB, Bool.and_eq_true, low, dig, Bool.or_eq_true, decide_eq_true_eq, List.all_eq_true] at h
    intro c hc
    rcases List.mem_cons.mp hc with rfl | hc
    · have := h.2.1; omega
    · have := h.2.2 c hc; omega
theorem lk_of {l : List Nat} (h : ∀ c ∈ l, 32 ≤ c ∧ c ≤ 122) (hl : l.length ≤ 20) : Lk l := by
  refine ⟨List.all_eq_true.mpr fun c hc => ?_, hl, fun h10 => ?_⟩
  · have := h c hc
    exact decide_eq_true (by omega)
  · have := h 10 h10
    omega
theorem lk_get {n : Nat} (hn : n ≤ 400) : Lk ([103, 101, 116, 32] ++ istr (n : Int)) := by
  obtain ⟨_, h1, h2⟩ := istr_ok n (by omega)
  refine lk_of (fun c hc => ?_) (by rw [List.length_append]; simp only [List.length_cons, List.length_nil]; omega)
  rcases List.mem_append.mp hc with hc | hc
  · simp only [List.mem_cons, List.not_mem_nil, or_false] at hc; omega
  · have := all_dig h1 c hc; omega
theorem lk_nm {w : List Nat} (h : nameB w = true) : Lk ([110, 97, 109, 101, 32] ++ w) := by
  have h2 := name12 h
  refine lk_of (fun c hc => ?_) (by rw [List.length_append]; simp only [List.length_cons, List.length_nil]; omega)
  rcases List.mem_append.mp hc with hc | hc
  · simp only [List.mem_cons, List.not_mem_nil, or_false] at hc; omega
  · have := name_ge h c hc; omega
theorem lk_call : Lk [99, 97, 108, 108] := by decide
theorem lk_close : Lk [99, 108, 111, 115, 101] := by decide
theorem lk_end : Lk [101, 110, 100] := by decide
theorem lnC_lk : ∀ c, goodC c = true → ∀ l ∈ lnC c, Lk l
  | .nil, _, l, h => by simp [lnC] at h
  | .get n r, g, l, h => by
    simp only [goodC, Bool.and_eq_true, decide_eq_true_eq] at g
    simp only [lnC, List.mem_cons] at h
    rcases h with rfl | h
    · exact lk_get g.1
    · exact lnC_lk r g.2 l h
  | .nm w r, g, l, h => by
    simp only [goodC, Bool.and_eq_true] at g
    simp only [lnC, List.mem_cons] at h
    rcases h with rfl | h
    · exact lk_nm g.1
    · exact lnC_lk r g.2 l h
  | .call r, g, l, h => by
    simp only [goodC] at g
    simp only [lnC, List.mem_cons] at h
    rcases h with rfl | h
    · exact lk_call
    · exact lnC_lk r g l h
  | .close b r, g, l, h => by
    simp only [goodC, Bool.and_eq_true] at g
    simp only [lnC, List.mem_cons, List.mem_append] at h
    rcases h with rfl | h | rfl | h
    · exact lk_close
    · exact lnC_lk b g.1 l h
    · exact lk_end
    · exact lnC_lk r g.2 l h
theorem lnC_len2 : ∀ c, (lnC c).length ≤ tot c + wid c
  | .nil => by simp [lnC]
  | .get _ r => by have := lnC_len2 r; simp only [lnC, tot, wid, List.length_cons]; omega
  | .nm _ r => by have := lnC_len2 r; simp only [lnC, tot, wid, List.length_cons]; omega
  | .call r => by have := lnC_len2 r; simp only [lnC, tot, wid, List.length_cons]; omega
  | .close b r => by have := lnC_len2 r; have := lnC_len2 b; simp only [lnC, tot, wid, List.length_cons, List.length_append]; omega
theorem lnC_app : ∀ (L M : List Od), lnC (ofL (L ++ M)) = lnC (ofL L) ++ lnC (ofL M)
  | [], M => rfl
  | .get n :: L, M => by
    show lnC (.get n (ofL (L ++ M))) = lnC (.get n (ofL L)) ++ _
    simp only [lnC, lnC_app L M, List.cons_append]
  | .nm n :: L, M => by
    show lnC (.nm n (ofL (L ++ M))) = lnC (.nm n (ofL L)) ++ _
    simp only [lnC, lnC_app L M, List.cons_append]
  | .call :: L, M => by
    show lnC (.call (ofL (L ++ M))) = lnC (.call (ofL L)) ++ _
    simp only [lnC, lnC_app L M, List.cons_append]
  | .close b :: L, M => by
    show lnC (.close b (ofL (L ++ M))) = lnC (.close b (ofL L)) ++ _
    simp only [lnC, lnC_app L M, List.cons_append, List.append_assoc]
theorem ord_get {n : Nat} (hn : n ≤ 400) : ordP ([103, 101, 116, 32] ++ istr (n : Int)) = some (.get n) := by
  unfold ordP
  rw [if_pos (show List.take 4 ([103, 101, 116, 32] ++ istr (n : Int)) = [103, 101, 116, 32] from rfl)]
  show (numP (istr (n : Int))).map Od.get = _
  rw [(istr_ok n (by omega)).1]
  rfl
theorem ord_nm {w : List Nat} (h : nameB w = true) : ordP ([110, 97, 109, 101, 32] ++ w) = some (.nm w) := by
  unfold ordP
  rw [if_neg (by simp)]
  rw [if_pos ⟨rfl, h⟩]
  rfl
theorem rdL_ord {l : List Nat} {st : List Row} {P : List Od} {m : Int} {o : Od} (h1 : l ≠ lCall) (h2 : l ≠ lClose) (h3 : l ≠ lEnd) (h : ordP l = some o) : rdL l (st ++ [(P, m)]) = some (st ++ [(P ++ [o], m + 1)]) := by
  rw [rdL_last, if_neg h1, if_neg h2, if_neg h3, h]
theorem rdAll_cons {l : List Nat} {ls : List (List Nat)} {k : Nat} {st st' : List Row} (h : rdL l st = some st') : rdAll (l :: ls) k st = rdAll ls (k + 1) st' := by
  simp only [rdAll, h]
theorem rd_cod : ∀ (t : Tm) {a : Nat} (rest : List (List Nat)) (k : Nat) (st : List Row) (P : List Od) (m : Int), good t = true → clo a t = true → a + dp t ≤ 400 → 0 ≤ m →
    rdAll (lnC (ofL (cod t)) ++ rest) k (st ++ [(P, m)]) = rdAll rest (k + (lnC (ofL (cod t))).length) (st ++ [(P ++ cod t, m + 1)])
  | .av j, a, rest, k, st, P, m, g, c, d, hm => by
    simp only [clo, decide_eq_true_eq, dp] at c d
    show rdAll (([103, 101, 116, 32] ++ istr (j : Int)) :: rest) k _ = _
    rw [rdAll_cons (rdL_ord (by simp [lCall]) (by simp [lClose]) (by simp [lEnd]) (ord_get (by omega)))]
    rfl
  | .nm w, a, rest, k, st, P, m, g, c, d, hm => by
    show rdAll (([110, 97, 109, 101, 32] ++ w) :: rest) k _ = _
    rw [rdAll_cons (rdL_ord (by simp [lCall]) (by simp [lClose]) (by simp [lEnd]) (ord_nm g))]
    rfl
  | .fn t, a, rest, k, st, P, m, g, c, d, hm => by
    simp only [clo, dp] at c d
    show rdAll ((lClose :: (lnC (ofL (cod t)) ++ (lEnd :: []))) ++ rest) k _ = _
    rw [List.cons_append, rdAll_cons (st' := st ++ [(P, m)] ++ [([], 0)]) (by rw [rdL_last, if_neg (by decide), if_pos rfl])]
    rw [List.append_assoc, rd_cod t (a := a + 1) _ _ _ _ _ g c (by omega) (Int.le_refl 0), List.cons_append, List.nil_append]
    rw [rdAll_cons (st' := st ++ [(P ++ [.close (ofL (cod t))], m + 1)])]
    · show rdAll rest _ _ = rdAll rest (k + (lClose :: (lnC (ofL (cod t)) ++ (lEnd :: []))).length) _
      simp only [List.length_cons, List.length_append, List.length_nil, cod]
      congr 1
      omega
    · rw [rdL_last, if_neg (by decide), if_neg (by decide), if_pos rfl]
      simp
  | .cl t u, a, rest, k, st, P, m, g, c, d, hm => by
    simp only [clo, Bool.and_eq_true, dp] at c d
    simp only [good, Bool.and_eq_true] at g
    have e : lnC (ofL (cod (.cl t u))) = lnC (ofL (cod t)) ++ (lnC (ofL (cod u)) ++ (lCall :: [])) := by
      show lnC (ofL (cod t ++ cod u ++ [.call])) = _
      rw [lnC_app, lnC_app, List.append_assoc]
      rfl
    rw [e, List.append_assoc, rd_cod t _ _ _ _ _ g.1 c.1 (by omega) hm, List.append_assoc, rd_cod u _ _ _ _ _ g.2 c.2 (by omega) (by omega), List.cons_append, List.nil_append]
    rw [rdAll_cons (st' := st ++ [(P ++ cod t ++ cod u ++ [.call], m + 1)])]
    · simp only [List.length_cons, List.length_append, List.length_nil, cod, List.append_assoc]
      congr 1
      omega
    · rw [rdL_last, if_pos rfl, if_neg (by omega)]
      congr 4
      omega
theorem rd_all {t : Tm} {a : Nat} (g : good t = true) (c : clo a t = true) (d : a + dp t ≤ 400) : rdAll (lnC (ofL (cod t))) 0 [([], 0)] = .inr [(cod t, 1)] := by
  have := rd_cod t [] 0 [] [] 0 g c d (Int.le_refl 0)
  rw [List.append_nil] at this
  simpa [rdAll] using this
/-! what is read is in order -/
theorem Gd.all : ∀ (ls : List (List Nat)) (k : Nat) (st st' : List Row), Gd st k → rdAll ls k st = .inr st' → Gd st' (k + ls.length)
  | [], k, st, st', h, e => by
    simp only [rdAll, Sum.inr.injEq] at e
    rw [← e]; exact h
  | l :: ls, k, st, st', h, e => by
    simp only [rdAll] at e
    cases e1 : rdL l st with
    | none => rw [e1] at e; cases e
    | some s1 =>
      rw [e1] at e
      have := Gd.all ls (k + 1) s1 st' (h.step e1) e
      rw [List.length_cons, show k + (ls.length + 1) = k + 1 + ls.length by omega]
      exact this
theorem lrD_pl (ls : List (List Nat)) (hn : ls.length ≤ 80) : pl (lrD ls) = true ∧ dd (lrD ls) ≤ 170 := by
  unfold lrD
  cases e : rdAll ls 0 [([], 0)] with
  | inl k => exact ⟨rfl, by simp [dd]⟩
  | inr st =>
    have g := Gd.all ls 0 _ st Gd.start e
    match st, g with
    | [], g => exact ⟨rfl, by simp [dd]⟩
    | [(L, m)], g =>
      dsimp only
      have go := g.ok (L, m) (by simp)
      have tT := g.tT; have tW := g.tW
      simp only [List.map_cons, List.map_nil, List.sum_cons, List.sum_nil, rT, rW] at tT tW
      split
      · have g1 := good_ofL L go.ok
        have g2 := tot_ofL L
        have g3 := wid_ofL L
        have g4 := nest_wid (ofL L)
        have g5 := encC_pls (ofL L) g1 (by omega)
        have g6 := encC_dds (ofL L)
        have g7 := encC_len (ofL L)
        rw [encC_ofL] at g5 g6 g7
        exact ⟨by simp only [pl, g5, Bool.and_true, decide_eq_true_eq]; omega, by simp only [dd]; omega⟩
      · exact ⟨rfl, by simp [dd]⟩
    | _ :: _ :: _, g => exact ⟨rfl, by simp [dd]⟩
/-! joined -/
theorem jn_len (c : Nat) : ∀ ls : List (List Nat), (∀ l ∈ ls, l.length ≤ 20) → (jn c ls).length ≤ 21 * ls.length
  | [], _ => by simp [jn]
  | [x], h => by have := h x (by simp); simp only [jn, List.length_cons, List.length_nil]; omega
  | x :: y :: r, h => by
    have h1 := h x (by simp)
    have h2 := jn_len c (y :: r) fun l hl => h l (List.mem_cons_of_mem _ hl)
    simp only [jn, List.length_append, List.length_cons] at h2 ⊢
    omega
theorem sum_len : ∀ ls : List (List Nat), (∀ l ∈ ls, l.length ≤ 20) → (ls.map List.length).sum ≤ 20 * ls.length
  | [], _ => by simp
  | x :: r, h => by
    have h1 := h x (by simp)
    have h2 := sum_len r fun l hl => h l (List.mem_cons_of_mem _ hl)
    simp only [List.map_cons, List.sum_cons, List.length_cons]
    omega
end K49
end Mini
end L2
namespace L2
namespace Mini
namespace K49
open PySem PySem.Spec PyProof.Rows
local macro_rules | `(tactic| walk_at "s") => `(tactic| first | with_reducible refine st_set ?_ | with_reducible refine st_ife ?_ | with_reducible refine st_ret ?_ | with_reducible refine st_ex ?_ | with_reducible refine st_unp ?_ | with_reducible refine st_unpl ?_ | with_reducible refine st_unpa ?_ | with_reducible refine st_aug ?_ | with_reducible refine st_for ?_ | with_reducible refine st_whl ?_ | with_reducible refine st_nil ?_ | with_reducible refine st_setix ?_ | with_reducible refine st_raise ?_ | with_reducible refine st_try ?_ | with_reducible refine st_setat ?_ | with_reducible refine st_augat ?_ | with_reducible refine st_pass ?_ | with_reducible refine st_brk ?_ | with_reducible refine st_cnt ?_)
local macro_rules | `(tactic| walk_at "e") => `(tactic| try simp only [fget, fput, eq_self, Nat.reduceEqDiff, and_true, Int.reduceBEq, wpC, goW, List.map_cons, List.map_nil, deq, deqs, List.any_cons, List.any_nil, slW, cut_1, Int.cast_ofNat_Int, Int.natCast_zero, Int.natCast_one, Int.reduceLE, Int.reduceLT, Int.reduceNeg, Int.reduceAdd, Int.reduceSub, decide_true, decide_false, inW_chr, List.contains_cons, List.contains_nil, Bool.or_true, Bool.true_or, Bool.or_false, Bool.false_or, gd, gds, List.all_cons, List.all_nil, Nat.reduceLT, List.zip_cons_cons, List.zip_nil_left, List.foldl_cons, List.foldl_nil, wpT, wpE, wpEs, wpO, wpI, env0, Env.get, List.map, List.length, List.replicate, List.getElem?_cons_zero, List.getElem?_cons_succ, List.nil_append, List.cons_append, List.append_nil, tru, isiW, cmpW, List.set, Nat.reduceSub, Nat.reduceAdd, Bool.not_true, Bool.not_false, Bool.false_eq_true, if_true, if_false, reduceIte, ixW, biW, bmTy, augW, tgW, newW, wpPs, dmerge, sqW_t, sqW_s, binW_ai, binW_si, binW_at, binW_as, binW_mi, binW_di, binW_mo, atI_0, atI_1, atI_2, ex_some, eqW_str, eqW_int, sz0, sz1, sz2, sz3, sz4, sz5, sz6, sz7, sz8, sz9, sz10, sz11, sz12, sz13, sz14, true_and, Bool.false_xor, Bool.true_xor, lb_cc, lb_nc, lb_cn, lb_nn, Nat.reduceBEq, Bool.and_true, Bool.true_and, Bool.false_and, Bool.and_false, beq_self_eq_true, binW_ms])
local macro_rules | `(tactic| walk_at "r") => `(tactic| ((try walk_at "s"); walk_at "e"; repeat (walk_at "s"; walk_at "e")))
local macro_rules | `(tactic| walk_at "w") => `(tactic| simp only [wpSs, wpS, wpT, wpE, wpEs, wpO, wpI, env0, Env.get, List.map, List.length, List.replicate, List.getElem?_cons_zero, List.getElem?_cons_succ, List.nil_append, List.cons_append, List.append_nil, tru, isiW, cmpW, List.set, Nat.reduceSub, Nat.reduceAdd, Bool.not_true, Bool.not_false, Bool.false_eq_true, if_true, if_false, reduceIte, ixW, biW, bmTy, sqW_t, sqW_s, binW_ai, binW_si, binW_at, binW_as, binW_mi, binW_di, binW_mo, atI_0, atI_1, atI_2, ex_some, eqW_str, eqW_int, sz0, sz1, sz2, sz3, sz4, sz5, sz6, sz7, sz11, true_and, Bool.false_xor, Bool.true_xor, lb_cc, lb_nc, lb_cn, lb_nn, Nat.reduceBEq, Bool.and_true, Bool.true_and, Bool.false_and, Bool.and_false, beq_self_eq_true])
local macro_rules | `(tactic| walk_at "q") => `(tactic| refine eqW_of rfl rfl (Nat.le_of_ble_eq_true rfl) ?_)
local macro_rules | `(tactic| walk_at "g") => `(tactic| (walk_at "r"; repeat (walk_at "q"; walk_at "r")))
/-! ### part_of_code, write_code, the law's call -/
abbrev xCode : Xn := ⟨4, [(2, .str []), (1, .str [99, 111, 100, 101])]⟩
abbrev dCode : D := .tup [.str [99, 111, 100, 101], .str []]
theorem w_poc_no {d : D} {n : Nat} {S : Sto} {Q : QD} {E : QX} (h7 : ∀ (Q0 : QD), (∀ S', Sx S S' → Q0 .non S') → (lvl prg n).fn 4 [d, .int 100] S Q0 E) (q : ∀ S', Sx S S' → E xCode S') : (lvl prg (n + 1)).fn 5 [d] S Q E := by
  refine ⟨rfl, ?_⟩
  unfold ir5
  walk_at "s"; walk_at "e"
  refine h7 _ fun S1 x1 => ?_
  walk_at "s"; walk_at "e"
  walk_at "s"
  rw [lvl_xfl]
  walk_at "e"
  exact ⟨rfl, q S1 x1⟩
theorem w_poc {c : Cd} {t : Tm} {n : Nat} {S : Sto} {Q : QD} {E : QX} (hn : 2 * nest c + 2 ≤ n) (hl : nest c < 100) (ht : tot c ≤ 400) (hw : wid c ≤ 90) (hg : goodC c = true) (e : top1 c = some t) (q : ∀ S', Sx S S' → Q (enc t) S') :
    (lvl prg (n + 2)).fn 5 [.tup (encC c)] S Q E := by
  obtain ⟨hd, hgt, hz⟩ := top1_ok hg e
  refine ⟨rfl, ?_⟩
  unfold ir5
  walk_at "s"; walk_at "e"
  refine f7 (left := 100) hn hl ht hg ?_
  intro S1 x1
  rw [e]
  obtain ⟨ta, tds, et⟩ := enc_tup t
  simp only [optD]
  rw [et]
  walk_at "s"; walk_at "e"
  walk_at "s"
  walk_at "s"; walk_at "e"
  rw [← et]
  refine w_measured hgt (by omega) fun S2 x2 => ?_
  walk_at "e"
  walk_at "s"; walk_at "e"
  have h1 : decide ((400 : Int) < (sz t : Int)) = false := decide_eq_false (by omega)
  have h2 : decide ((100 : Int) < (dp t : Int)) = false := decide_eq_false (by omega)
  simp only [h1, h2]
  walk_at "e"
  walk_at "s"
  walk_at "s"; walk_at "e"
  exact q S2 (x1.trans x2)
theorem w_write {c : Cd} {t : Tm} {n : Nat} {S : Sto} {Q : QD} {E : QX} (hn : 2 * nest c + 2 ≤ n) (hl : nest c < 100) (ht : tot c ≤ 400) (hw : wid c ≤ 90) (hg : goodC c = true) (e : top1 c = some t) (q : ∀ S', Sx S S' → Q (.str (jn 10 (lnC c))) S') :
    (lvl prg (n + 3)).fn 7 [.tup (encC c)] S Q E := by
  refine ⟨rfl, ?_⟩
  unfold ir7
  walk_at "s"; walk_at "e"
  refine w_poc hn hl ht hw hg e fun S1 x1 => ?_
  walk_at "s"; walk_at "e"
  refine w_lines (n := n + 1) (by omega) (by omega) hg fun a S2 h2 x2 => ?_
  walk_at "e"
  have hk := lnC_lk c hg
  have h3 := lnC_len2 c
  have h4 := sum_len (lnC c) fun l hl => (hk l hl).2.1
  show ∃ ls : List (List Nat), _ ∧ _ ∧ _
  refine ⟨lnC c, rd_lst h2, by simp only [List.length_cons, List.length_nil]; omega, ?_⟩
  rw [txt_join]
  exact q S2 (x1.trans x2)
theorem w_call {f : Nat} {v : D} {n : Nat} {S : Sto} {Q : QD} {E : QX} (hf : f < 22) (h : ∀ (Q' : QD) (E' : QX), (∀ d S', Q d S' → Q' d S') → (∀ (k : Nat) S', Q (.int (k : Int)) S' → E' (xText k) S') → (∀ S', Q dCode S' → E' xCode S') → (lvl prg n).fn f [v] S Q' E') : (lvl prg (n + 1)).fn 17 [.fn f, v] S Q E := by
  refine ⟨rfl, ?_⟩
  unfold ir17
  walk_at "s"
  walk_at "s"; walk_at "e"
  refine ⟨by rw [lvl_nfn]; exact hf, h _ _ (fun d S' q => q) (fun k S' q => ?_) fun S' q => ?_⟩
  · unfold tryW
    rw [lvl_xsub, if_pos (by rfl)]
    exact ⟨by show 2 < 4; decide, _, rfl, q⟩
  · unfold tryW
    rw [lvl_xsub, if_neg (by decide)]
    unfold tryW
    rw [lvl_xsub, if_pos (by rfl)]
    exact ⟨by show 2 < 4; decide, _, _, rfl, rfl, q⟩
/-- reading lines, told, is what the law's reader tells -/
theorem w_told {ls : List (List Nat)} {n : Nat} {S : Sto} {Q : QD} {E : QX} (ne : ls ≠ []) (hk : ∀ l ∈ ls, Lk l) (hn : ls.length ≤ 80) (q : ∀ S', Sx S S' → Q (lrD ls) S') : (lvl prg (n + 201)).fn 17 [.fn 10, .str (jn 10 ls)] S Q E := by
  refine w_call (by decide) fun Q' E' hq hk2 hc => ?_
  have hj := jn_len 10 ls fun l hl => (hk l hl).2.1
  refine w_readcode ne (fun l hl => (hk l hl).2.2) (fun l hl => ⟨(hk l hl).1, by have := (hk l hl).2.1; omega⟩) hn (by omega) (fun k S1 e x1 => hk2 k S1 ?_) (fun L m S1 e em x1 => hq _ S1 ?_) (fun st S1 e en x1 => hk2 _ S1 ?_)
  · have := q S1 x1
    unfold lrD at this
    rw [e] at this
    exact this
  · have := q S1 x1
    unfold lrD at this
    rw [e] at this
    dsimp only at this
    rw [if_pos em] at this
    exact this
  · have := q S1 x1
    unfold lrD at this
    rw [e] at this
    match st, en with
    | [], en => exact this
    | [(L, m)], en =>
      dsimp only at this
      rw [if_neg (fun h => en L (by rw [h]))] at this
      exact this
    | _ :: _ :: _, en => exact this
/-! what is no text of a code -/
theorem w_readno {d : D} {n : Nat} {S : Sto} {Q : QD} {E : QX} (h : d = .non ∨ d = .int 5 ∨ (∃ a ds, d = .ref a ∧ S a = some (.lst ds)) ∨ ∃ w, d = .str w ∧ w.length = 4001) (q : E (xText 0) S) : (lvl prg (n + 1)).fn 10 [d] S Q E := by
  refine ⟨rfl, ?_⟩
  unfold ir10
  rcases h with rfl | rfl | ⟨a, ds, rfl, ha⟩ | ⟨w, rfl, hl⟩
  · walk_at "s"; walk_at "e"
    walk_at "s"; walk_at "e"
    rw [lvl_xfl]
    exact ⟨rfl, q⟩
  · walk_at "s"; walk_at "e"
    walk_at "s"; walk_at "e"
    rw [lvl_xfl]
    exact ⟨rfl, q⟩
  · walk_at "s"; walk_at "e"
    simp only [ha]
    walk_at "e"
    walk_at "s"; walk_at "e"
    rw [lvl_xfl]
    exact ⟨rfl, q⟩
  · walk_at "s"; walk_at "e"
    refine ⟨of_eq_true (sz_le (by omega)), ?_⟩
    rw [hl]
    walk_at "e"
    walk_at "s"; walk_at "e"
    rw [lvl_xfl]
    exact ⟨rfl, q⟩
/-! what is no code -/
abbrev sCl0 : D := .str [99, 97, 108, 108]
theorem b_get2 {left : Int} {n : Nat} {S : Sto} {p : Addr} {Q : QD} {E : QX} (hp : S p = some (.lst [])) (q : ∀ S', Sx S S' → Q (.bl false) S') : (lvl prg (n + 2)).fn 3 [.tup [sGt, .bl true], .ref p, .int left] S Q E := by
  refine ⟨rfl, ?_⟩
  unfold ir3
  walk_at "s"; walk_at "e"
  refine eqW_t0 rfl ?_
  walk_at "e"
  walk_at "s"; walk_at "s"; walk_at "e"
  walk_at "s"; walk_at "e"
  refine eqW_of rfl rfl (by decide) ?_
  walk_at "e"
  refine w_int_bl ?_
  walk_at "e"
  walk_at "s"
  walk_at "s"; walk_at "e"
  refine eqW_of rfl rfl (by decide) ?_
  walk_at "e"
  walk_at "s"
  walk_at "s"; walk_at "e"
  refine eqW_of rfl rfl (by decide) ?_
  walk_at "e"
  walk_at "s"
  walk_at "s"; walk_at "e"
  refine eqW_of rfl rfl (by decide) ?_
  walk_at "e"
  walk_at "s"
  walk_at "s"; walk_at "e"
  exact q _ (Sx.refl S)
def No7 (d : D) : Prop := ∀ (n : Nat) (S : Sto) (Q : QD) (E : QX), (∀ S', Sx S S' → Q .non S') → (lvl prg (n + 60)).fn 4 [d, .int 100] S Q E
theorem n7_non : No7 .non := fun n S Q E q => by
  refine ⟨rfl, ?_⟩
  unfold ir4
  walk_at "s"; walk_at "e"
  walk_at "s"; walk_at "e"
  exact q S (Sx.refl S)
theorem n7_list {a : Addr} {ds : List D} {n : Nat} {S : Sto} {Q : QD} {E : QX} (h : S a = some (.lst ds)) (q : ∀ S', Sx S S' → Q .non S') : (lvl prg (n + 60)).fn 4 [.ref a, .int 100] S Q E := by
  refine ⟨rfl, ?_⟩
  unfold ir4
  walk_at "s"; walk_at "e"
  simp only [h]
  walk_at "e"
  walk_at "s"; walk_at "e"
  exact q S (Sx.refl S)
theorem n7_bad {o : D} {r : List D} (hr : r.length < 300) (h : ∀ (n : Nat) (S : Sto) (p : Addr) (Q : QD) (E : QX), S p = some (.lst []) → (∀ S', Sx S S' → Q (.bl false) S') → (lvl prg (n + 40)).fn 3 [o, .ref p, .int 100] S Q E) : No7 (.tup (o :: r)) := fun n S Q E q => by
  have hlen : decide ((400 : Int) < ((o :: r).length : Int)) = false := decide_eq_false (by simp only [List.length_cons]; omega)
  refine ⟨rfl, ?_⟩
  unfold ir4
  walk_at "s"
  simp only [wpT, wpE, wpEs, env0, Env.get, biW, hlen]
  walk_at "e"
  simp only [List.length_cons] at hlen
  try simp only [hlen]
  walk_at "e"
  walk_at "s"; walk_at "s"; walk_at "e"
  intro p hp
  walk_at "s"; walk_at "e"
  refine forW_step True.intro rfl fun K' knx _ krt _ => ?_
  walk_at "s"; walk_at "e"
  refine h (n + 19) _ p _ _ Sto.upd_same fun S1 x1 => ?_
  walk_at "e"
  walk_at "s"; walk_at "e"
  exact krt _ _ (q S1 ((Sx.new hp).trans x1))
theorem n7_2 : No7 (.tup [.tup [sGt, .bl true]]) := n7_bad (by decide) fun n S p Q E hp q => b_get2 hp q
end K49
end Mini
end L2
namespace L2
namespace Mini
namespace K49
open PySem PySem.Spec PyProof.Rows
local macro_rules | `(tactic| walk_at "s") => `(tactic| first | with_reducible refine st_set ?_ | with_reducible refine st_ife ?_ | with_reducible refine st_ret ?_ | with_reducible refine st_ex ?_ | with_reducible refine st_unp ?_ | with_reducible refine st_unpl ?_ | with_reducible refine st_unpa ?_ | with_reducible refine st_aug ?_ | with_reducible refine st_for ?_ | with_reducible refine st_whl ?_ | with_reducible refine st_nil ?_ | with_reducible refine st_setix ?_ | with_reducible refine st_raise ?_ | with_reducible refine st_try ?_ | with_reducible refine st_setat ?_ | with_reducible refine st_augat ?_ | with_reducible refine st_pass ?_ | with_reducible refine st_brk ?_ | with_reducible refine st_cnt ?_)
local macro_rules | `(tactic| walk_at "e") => `(tactic| try simp only [fget, fput, eq_self, Nat.reduceEqDiff, and_true, Int.reduceBEq, wpC, goW, List.map_cons, List.map_nil, deq, deqs, List.any_cons, List.any_nil, slW, cut_1, Int.cast_ofNat_Int, Int.natCast_zero, Int.natCast_one, Int.reduceLE, Int.reduceLT, Int.reduceNeg, Int.reduceAdd, Int.reduceSub, decide_true, decide_false, inW_chr, List.contains_cons, List.contains_nil, Bool.or_true, Bool.true_or, Bool.or_false, Bool.false_or, gd, gds, List.all_cons, List.all_nil, Nat.reduceLT, List.zip_cons_cons, List.zip_nil_left, List.foldl_cons, List.foldl_nil, wpT, wpE, wpEs, wpO, wpI, env0, Env.get, List.map, List.length, List.replicate, List.getElem?_cons_zero, List.getElem?_cons_succ, List.nil_append, List.cons_append, List.append_nil, tru, isiW, cmpW, List.set, Nat.reduceSub, Nat.reduceAdd, Bool.not_true, Bool.not_false, Bool.false_eq_true, if_true, if_false, reduceIte, ixW, biW, bmTy, augW, tgW, newW, wpPs, dmerge, sqW_t, sqW_s, binW_ai, binW_si, binW_at, binW_as, binW_mi, binW_di, binW_mo, atI_0, atI_1, atI_2, ex_some, eqW_str, eqW_int, sz0, sz1, sz2, sz3, sz4, sz5, sz6, sz7, sz8, sz9, sz10, sz11, sz12, sz13, sz14, true_and, Bool.false_xor, Bool.true_xor, lb_cc, lb_nc, lb_cn, lb_nn, Nat.reduceBEq, Bool.and_true, Bool.true_and, Bool.false_and, Bool.and_false, beq_self_eq_true, binW_ms])
local macro_rules | `(tactic| walk_at "r") => `(tactic| ((try walk_at "s"); walk_at "e"; repeat (walk_at "s"; walk_at "e")))
local macro_rules | `(tactic| walk_at "w") => `(tactic| simp only [wpSs, wpS, wpT, wpE, wpEs, wpO, wpI, env0, Env.get, List.map, List.length, List.replicate, List.getElem?_cons_zero, List.getElem?_cons_succ, List.nil_append, List.cons_append, List.append_nil, tru, isiW, cmpW, List.set, Nat.reduceSub, Nat.reduceAdd, Bool.not_true, Bool.not_false, Bool.false_eq_true, if_true, if_false, reduceIte, ixW, biW, bmTy, sqW_t, sqW_s, binW_ai, binW_si, binW_at, binW_as, binW_mi, binW_di, binW_mo, atI_0, atI_1, atI_2, ex_some, eqW_str, eqW_int, sz0, sz1, sz2, sz3, sz4, sz5, sz6, sz7, sz11, true_and, Bool.false_xor, Bool.true_xor, lb_cc, lb_nc, lb_cn, lb_nn, Nat.reduceBEq, Bool.and_true, Bool.true_and, Bool.false_and, Bool.and_false, beq_self_eq_true])
local macro_rules | `(tactic| walk_at "q") => `(tactic| refine eqW_of rfl rfl (Nat.le_of_ble_eq_true rfl) ?_)
local macro_rules | `(tactic| walk_at "g") => `(tactic| (walk_at "r"; repeat (walk_at "q"; walk_at "r")))
/-! ### the law -/
theorem n7_writeno {d : D} {n : Nat} {S : Sto} {Q : QD} {E : QX} (h7 : ∀ (Q0 : QD) (E : QX), (∀ S', Sx S S' → Q0 .non S') → (lvl prg (n + 60)).fn 4 [d, .int 100] S Q0 E) (q : ∀ S', Sx S S' → E xCode S') : (lvl prg (n + 62)).fn 7 [d] S Q E := by
  refine ⟨rfl, ?_⟩
  unfold ir7
  walk_at "s"; walk_at "e"
  refine w_poc_no (n := n + 60) (fun Q0 q0 => h7 Q0 _ q0) fun S1 x1 => ?_
  exact q S1 x1
theorem code_C (t : Tm) : code t = encC (ofL (cod t)) := by rw [encC_ofL, code_cod]
theorem new_tp {t c p : Addr} {S : Sto} (h : Tp t c S) (hp : S p = none) : p ≠ t ∧ p ≠ c := by
  obtain ⟨s, es⟩ := h.at_
  obtain ⟨l, el⟩ := h.cs
  exact ⟨fun e => (by rw [← e, hp] at es; cases es), fun e => (by rw [← e, hp] at el; cases el)⟩
/-! what is drawn near -/
theorem es_cons {G : Gam} {e : Ex} {es : Exs} {σ : Env} {S : Sto} {Q : List D → Sto → Prop} {E : QX} (h : wpE G e σ S (fun d S1 => wpEs G es σ S1 (fun ds S2 => Q (d :: ds) S2) E) E) : wpEs G (.cons e es) σ S Q E := h
theorem es_nil {G : Gam} {σ : Env} {S : Sto} {Q : List D → Sto → Prop} {E : QX} (h : Q [] S) : wpEs G .nil σ S Q E := h
theorem e_var {G : Gam} {i : Nat} {d : D} {σ : Env} {S : Sto} {Q : QD} {E : QX} (e : σ.get i = some d) (h : Q d S) : wpE G (.var i) σ S Q E := by
  show match σ.get i with | some d => Q d S | none => False
  rw [e]; exact h
theorem e_lit {G : Gam} {d : D} {σ : Env} {S : Sto} {Q : QD} {E : QX} (h : Q d S) : wpE G (.lit d) σ S Q E := h
theorem e_lst {G : Gam} {es : Exs} {σ : Env} {S : Sto} {Q : QD} {E : QX} (h : wpEs G es σ S (fun ds S1 => ds.length ≤ sizeLine ∧ newW (.lst ds) S1 Q) E) : wpE G (.lst es) σ S Q E := h
theorem e_call {G : Gam} {f : Nat} {es : Exs} {σ : Env} {S : Sto} {Q : QD} {E : QX} (h : wpEs G es σ S (fun ds S1 => G.fn f ds S1 Q E) E) : wpE G (.call f es) σ S Q E := h
/-- an expression that makes a list of texts of the lines -/
def Gv (G : Gam) (e : Ex) (σ : Env) (lb : Addr) (ls xs : List (List Nat)) : Prop := ∀ (S : Sto) (Q : QD) (E : QX), S lb = some (.lst (ls.map .str)) → (∀ p S', S' p = some (.lst (xs.map .str)) → (S p = none ∨ p = lb) → Sx S S' → Q (.ref p) S') → wpE G e σ S Q E
section
variable {G : Gam} {σ : Env} {lb : Addr} {ls xs ys : List (List Nat)} {k : Nat} {w : List Nat}
theorem Gv.var {i : Nat} (e : σ.get i = some (.ref lb)) : Gv G (.var i) σ lb ls ls := fun S Q E hl q => e_var e (q lb S hl (.inr rfl) (Sx.refl S))
theorem Gv.add {e1 e2 : Ex} (h1 : Gv G e1 σ lb ls xs) (h2 : Gv G e2 σ lb ls ys) (hz : xs.length + ys.length ≤ 1000) : Gv G (.bin .add e1 e2) σ lb ls (xs ++ ys) := fun S Q E hl q => by
  show wpE G e1 σ S (fun x S1 => wpE G e2 σ S1 (fun y S2 => binW .add x y S2 Q) E) E
  refine h1 S _ E hl fun p1 S1 a1 n1 x1 => h2 S1 _ E (x1 _ _ hl) fun p2 S2 a2 n2 x2 => ?_
  refine binW_ll (x2 _ _ a1) a2 (by rw [List.length_map, List.length_map]; omega) fun p hp => q p _ (by rw [Sto.upd_same, List.map_append]) (.inl ?_) ((x1.trans x2).trans (Sx.new hp))
  cases e : S p with
  | none => rfl
  | some c => rw [(x1.trans x2) _ _ e] at hp; cases hp
theorem Gv.to {i j : Nat} (e : σ.get i = some (.ref lb)) (e2 : σ.get j = some (.int (k : Int))) : Gv G (.slc (.var i) .none (.some (.var j))) σ lb ls (ls.take k) := fun S Q E hl q => by
  simp only [wpE, wpO, e, e2]
  refine ⟨_, rd_lst hl, fun p hp => ?_⟩
  rw [cut_to]
  exact q p _ (by rw [Sto.upd_same, List.map_take]) (.inl hp) (Sx.new hp)
theorem Gv.from_ {i j : Nat} (e : σ.get i = some (.ref lb)) (e2 : σ.get j = some (.int (k : Int))) : Gv G (.slc (.var i) (.some (.var j)) .none) σ lb ls (ls.drop k) := fun S Q E hl q => by
  simp only [wpE, wpO, e, e2]
  refine ⟨_, rd_lst hl, fun p hp => ?_⟩
  rw [cut_from]
  exact q p _ (by rw [Sto.upd_same, List.map_drop]) (.inl hp) (Sx.new hp)
theorem Gv.from1 {i j : Nat} (e : σ.get i = some (.ref lb)) (e2 : σ.get j = some (.int (k : Int))) : Gv G (.slc (.var i) (.some (.bin .add (.var j) (.lit (.int 1)))) .none) σ lb ls (ls.drop (k + 1)) := fun S Q E hl q => by
  simp only [wpE, wpO, e, e2, binW_ai]
  refine ⟨_, rd_lst hl, fun p hp => ?_⟩
  rw [show ((k : Int) + 1) = ((k + 1 : Nat) : Int) by omega, cut_from]
  exact q p _ (by rw [Sto.upd_same, List.map_drop]) (.inl hp) (Sx.new hp)
theorem Gv.one {i : Nat} (e : σ.get i = some (.str w)) : Gv G (.lst (.cons (.var i) .nil)) σ lb ls [w] := fun S Q E hl q => by
  refine e_lst (es_cons (e_var e (es_nil ⟨of_eq_true (sz_le (by simp)), fun p hp => ?_⟩)))
  exact q p _ (by rw [Sto.upd_same]; rfl) (.inl hp) (Sx.new hp)
theorem Gv.lit : Gv G (.lst (.cons (.lit (.str w)) .nil)) σ lb ls [w] := fun S Q E hl q => by
  refine e_lst (es_cons ?_)
  exact ⟨of_eq_true (sz_le (by simp)), fun p hp => q p _ (by rw [Sto.upd_same]; rfl) (.inl hp) (Sx.new hp)⟩
theorem Gv.rev {i : Nat} (e : σ.get i = some (.ref lb)) : Gv G (.rev (.var i)) σ lb ls ls.reverse := fun S Q E hl q => by
  simp only [wpE, e]
  refine ⟨_, rd_lst hl, fun p hp => ?_⟩
  exact q p _ (by rw [Sto.upd_same, List.map_reverse]) (.inl hp) (Sx.new hp)
end
/-- lines that can be handed in -/
structure Nb (ls : List (List Nat)) (m : Nat) : Prop where
  lk : ∀ l ∈ ls, Lk l
  len : ls.length ≤ m
theorem Nb.app {xs ys : List (List Nat)} {m k : Nat} (h : Nb xs m) (g : Nb ys k) : Nb (xs ++ ys) (m + k) := ⟨fun l hl => (List.mem_append.mp hl).elim (h.lk l) (g.lk l), by have := h.len; have := g.len; rw [List.length_append]; omega⟩
theorem Nb.take {xs : List (List Nat)} {m : Nat} (h : Nb xs m) (k : Nat) : ∀ l ∈ xs.take k, Lk l := fun l hl => h.lk l (List.mem_of_mem_take hl)
theorem Nb.drop {xs : List (List Nat)} {m : Nat} (h : Nb xs m) (k : Nat) : ∀ l ∈ xs.drop k, Lk l := fun l hl => h.lk l (List.mem_of_mem_drop hl)
abbrev odds : List (List Nat) := [[103, 101, 116, 32, 48, 49], [103, 101, 116, 32, 52, 48, 48], [103, 101, 116, 32, 52, 48, 49], [103, 101, 116], [103, 101, 116, 32, 32, 49], [110, 97, 109, 101, 32, 65], [110, 97, 109, 101, 32, 108, 101, 116], [110, 97, 109, 101, 32, 98, 55], [32, 99, 97, 108, 108], [99, 97, 108, 108, 32], [67, 108, 111, 115, 101], [101, 110, 100], [], [103, 101, 116, 32, 45, 49], [103, 101, 116, 32, 49, 32]]
theorem odds_lk : ∀ l ∈ odds, Lk l := by decide
abbrev rest9 : Stms := match forBody (forBody ir21) with
  | .cons _ (.cons _ (.cons _ (.cons _ r))) => r
  | _ => .nil
/-- behind the drawing: what is read, told, is the law's reading -/
theorem near_ok {n : Nat} {σ : Env} {b : Addr} {ls : List (List Nat)} {S : Sto} {K : En} {X : EX} (e9 : σ.get 9 = some (.ref b)) (hb : S b = some (.lst (ls.map .str))) (ne : ls ≠ []) (N : Nb ls 75) (q : ∀ S', Sx S S' → K.nx σ S') : wpSs (lvl prg (n + 300)) rest9 K X σ S := by
  have h4 := sum_len ls fun l hl => (N.lk l hl).2.1
  have h5 := N.len
  dsimp only [rest9, forBody, ir21]
  walk_at "s"
  simp only [wpT, wpE, wpEs, e9, bmTy, true_and]
  unfold bmW
  dsimp only
  refine ⟨ls, rd_lst hb, by simp only [List.length_cons, List.length_nil]; omega, ?_⟩
  rw [txt_join]
  refine w_told (n := n + 99) ne N.lk (by omega) fun S1 x1 => ?_
  refine w_lread (n := n + 297) (x1 _ _ hb) (fun l hl => ⟨(N.lk l hl).1, by have := (N.lk l hl).2.1; omega⟩) (by omega) fun S2 x2 => ?_
  have hp := lrD_pl ls (by omega)
  refine w_same (by omega) hp.1 fun S3 x3 => ?_
  walk_at "e"
  walk_at "s"
  exact q S3 ((x1.trans x2).trans x3)
theorem again_ok {n : Nat} {t c lb : Addr} {sc cd tx : D} {o2 o6 o7 o8 o9 : Option D} {ls : List (List Nat)} {S : Sto} {K : En} {X : EX} (h : Tp t c S) (hl : S lb = some (.lst (ls.map .str))) (nt : lb ≠ t) (nc : lb ≠ c) (N : Nb ls 74) (pos : 0 < ls.length)
    (q : ∀ o7 o8 o9 S', Tp t c S' → Sd t c S S' → K.nx [some sc, some (.ref t), o2, some cd, some (.ref lb), some tx, o6, o7, o8, o9] S') :
    wpSs (lvl prg (n + 300)) (forBody (forBody ir21)) K X [some sc, some (.ref t), o2, some cd, some (.ref lb), some tx, o6, o7, o8, o9] S := by
  have h74 := N.len
  dsimp only [forBody, ir21]
  walk_at "s"; walk_at "e"
  simp only [hl, List.length_map]
  refine w_draw (n := n + 299) (m := ls.length) h pos (by omega) fun k S1 hk h1 d1 => ?_
  have hl1 := d1 lb _ nt nc hl
  walk_at "s"; walk_at "e"
  refine ⟨of_eq_true (sz_le (by decide)), fun p hp => ?_⟩
  have ne : lb ≠ p := new_ne hl1 hp
  refine binW_ll (xs := ls.map .str) (ys := odds.map .str) (by rw [Sto.upd_ne ne]; exact hl1) Sto.upd_same (by simp only [List.length_map, List.length_cons, List.length_nil]; omega) fun p2 hp2 => ?_
  have h1a := h1.new (x := .lst (odds.map .str)) hp
  have h2 := h1a.new (x := .lst (ls.map .str ++ odds.map .str)) hp2
  refine w_pick (n := n + 298) h2 Sto.upd_same (new_tp h1a hp2).1 (new_tp h1a hp2).2 (by simp) (by simp only [List.length_append, List.length_map, List.length_cons, List.length_nil]; omega) fun d S3 hd h3 d3 => ?_
  obtain ⟨w, rfl, hw⟩ : ∃ w, d = .str w ∧ Lk w := by
    rw [← List.map_append] at hd
    obtain ⟨w, hw, rfl⟩ := List.mem_map.mp hd
    exact ⟨w, rfl, (List.mem_append.mp hw).elim (N.lk w) (odds_lk w)⟩
  have dd3 : Sd t c S S3 := d1.trans ((((Sx.new hp).trans (Sx.new hp2)).d t c).trans d3)
  have hl3 := dd3 lb _ nt nc hl
  walk_at "s"
  have e4 : Env.get ([some sc, some (.ref t), o2, some cd, some (.ref lb), some tx, o6, some (.int (k : Int)), some (.str w), o9]) 4 = some (.ref lb) := rfl
  have e7 : Env.get ([some sc, some (.ref t), o2, some cd, some (.ref lb), some tx, o6, some (.int (k : Int)), some (.str w), o9]) 7 = some (.int (k : Int)) := rfl
  have e8 : Env.get ([some sc, some (.ref t), o2, some cd, some (.ref lb), some tx, o6, some (.int (k : Int)), some (.str w), o9]) 8 = some (.str w) := rfl
  have lt : (ls.take k).length ≤ 74 := by rw [List.length_take]; omega
  have ld : (ls.drop k).length ≤ 74 := by rw [List.length_drop]; omega
  have ld1 : (ls.drop (k + 1)).length ≤ 74 := by rw [List.length_drop]; omega
  refine e_call (es_cons (e_var rfl (es_cons (e_lst (es_cons ?_)))))
  refine (Gv.add (Gv.to e4 e7) (Gv.from1 e4 e7) (by omega)) S3 _ _ hl3 fun p1 S4 a1 n1 x4 => es_cons ?_
  have hl4 := x4 _ _ hl3
  refine (Gv.add (Gv.add (Gv.to e4 e7) (Gv.one e8) (by simp; omega)) (Gv.from_ e4 e7) (by simp; omega)) S4 _ _ hl4 fun p2 S5 a2 n2 x5 => es_cons ?_
  have hl5 := x5 _ _ hl4
  refine (Gv.add (Gv.add (Gv.to e4 e7) (Gv.one e8) (by simp; omega)) (Gv.from1 e4 e7) (by simp; omega)) S5 _ _ hl5 fun p3 S6 a3 n3 x6 => es_cons ?_
  have hl6 := x6 _ _ hl5
  refine (Gv.add (Gv.var e4) Gv.lit (by simp; omega)) S6 _ _ hl6 fun p4 S7 a4 n4 x7 => es_cons ?_
  have hl7 := x7 _ _ hl6
  refine (Gv.rev e4) S7 _ _ hl7 fun p5 S8 a5 n5 x8 => es_nil ⟨of_eq_true (sz_le (by simp)), fun pp hpp => es_nil ?_⟩
  have h4 := h3.sx x4
  have h5 := h4.sx x5
  have h6 := h5.sx x6
  have h7 := h6.sx x7
  have h8 := h7.sx x8
  have h9 := h8.new (x := .lst [D.ref p1, .ref p2, .ref p3, .ref p4, .ref p5]) hpp
  have fr : ∀ {S0 : Sto} {q : Addr}, Tp t c S0 → (S0 q = none ∨ q = lb) → q ≠ t ∧ q ≠ c := fun h0 hq => hq.elim (new_tp h0) (fun e => by rw [e]; exact ⟨nt, nc⟩)
  refine w_pick (n := n + 298) h9 Sto.upd_same (new_tp h8 hpp).1 (new_tp h8 hpp).2 (by simp) (by simp) fun d S10 hd h10 d10 => ?_
  have x9 : Sx S8 (S8.upd pp (.lst [D.ref p1, .ref p2, .ref p3, .ref p4, .ref p5])) := Sx.new hpp
  obtain ⟨b, xs, rfl, hb, hN⟩ : ∃ b xs, d = .ref b ∧ S10 b = some (.lst (xs.map .str)) ∧ Nb xs 75 := by
    simp only [List.mem_cons, List.not_mem_nil, or_false] at hd
    rcases hd with rfl | rfl | rfl | rfl | rfl
    · exact ⟨p1, _, rfl, d10 _ _ (fr h3 n1).1 (fr h3 n1).2 (x9 _ _ (x8 _ _ (x7 _ _ (x6 _ _ (x5 _ _ a1))))), fun l hl => (List.mem_append.mp hl).elim (N.take k l) (N.drop _ l), by rw [List.length_append, List.length_take, List.length_drop]; omega⟩
    · refine ⟨p2, _, rfl, d10 _ _ (fr h4 n2).1 (fr h4 n2).2 (x9 _ _ (x8 _ _ (x7 _ _ (x6 _ _ a2)))), fun l hl => ?_, by simp only [List.length_append, List.length_take, List.length_drop, List.length_cons, List.length_nil]; omega⟩
      rcases List.mem_append.mp hl with hl | hl
      · rcases List.mem_append.mp hl with hl | hl
        · exact N.take k l hl
        · rw [List.mem_singleton.mp hl]; exact hw
      · exact N.drop _ l hl
    · refine ⟨p3, _, rfl, d10 _ _ (fr h5 n3).1 (fr h5 n3).2 (x9 _ _ (x8 _ _ (x7 _ _ a3))), fun l hl => ?_, by simp only [List.length_append, List.length_take, List.length_drop, List.length_cons, List.length_nil]; omega⟩
      rcases List.mem_append.mp hl with hl | hl
      · rcases List.mem_append.mp hl with hl | hl
        · exact N.take k l hl
        · rw [List.mem_singleton.mp hl]; exact hw
      · exact N.drop _ l hl
    · refine ⟨p4, _, rfl, d10 _ _ (fr h6 n4).1 (fr h6 n4).2 (x9 _ _ (x8 _ _ a4)), fun l hl => ?_, by simp only [List.length_append, List.length_cons, List.length_nil]; omega⟩
      rcases List.mem_append.mp hl with hl | hl
      · exact N.lk l hl
      · rw [List.mem_singleton.mp hl]; exact lk_end
    · exact ⟨p5, _, rfl, d10 _ _ (fr h7 n5).1 (fr h7 n5).2 (x9 _ _ a5), fun l hl => N.lk l (List.mem_reverse.mp hl), by rw [List.length_reverse]; omega⟩
  have d11 : Sd t c S S10 := dd3.trans ((((((x4.trans x5).trans x6).trans x7).trans x8).trans x9).d t c |>.trans d10)
  walk_at "s"
  have rest : ∀ (b' : Addr) (ls' : List (List Nat)) (S11 : Sto), Sx S10 S11 → S11 b' = some (.lst (ls'.map .str)) → ls' ≠ [] → Nb ls' 75 →
      wpSs (lvl prg (n + 300)) rest9 K X [some sc, some (.ref t), o2, some cd, some (.ref lb), some tx, o6, some (.int (k : Int)), some (.str w), some (.ref b')] S11 := fun b' ls' S11 x11 hb' ne' hN' =>
    near_ok rfl hb' ne' hN' fun S12 x12 => q _ _ _ S12 (h10.sx (x11.trans x12)) (d11.trans ((x11.trans x12).d t c))
  walk_at "e"
  simp only [hb, List.length_map]
  cases hx : decide ((0 : Int) < (xs.length : Int)) with
  | true =>
    have hx := of_decide_eq_true hx
    walk_at "e"
    exact rest b xs S10 (Sx.refl _) hb (fun e => by rw [e] at hx; simp at hx) hN
  | false =>
    walk_at "e"
    intro p6 hp6
    exact rest p6 [[]] _ (Sx.new hp6) (by rw [Sto.upd_same]; rfl) (by simp) ⟨fun l hl => by rw [List.mem_singleton.mp hl]; decide, by simp⟩
theorem agains {n : Nat} {t c lb : Addr} {sc cd tx : D} {o2 : Option D} {ls : List (List Nat)} {K : En} {X : EX} (nt : lb ≠ t) (nc : lb ≠ c) (N : Nb ls 74) (pos : 0 < ls.length)
    (q : ∀ o6 o7 o8 o9 S', Tp t c S' → S' lb = some (.lst (ls.map .str)) → K.nx [some sc, some (.ref t), o2, some cd, some (.ref lb), some tx, o6, o7, o8, o9] S') : ∀ (ds : List D) (o6 o7 o8 o9 : Option D) (S : Sto), Tp t c S → S lb = some (.lst (ls.map .str)) →
    forW (fun _ => True) (.nm 6) (fun K σ S => wpSs (lvl prg (n + 300)) (forBody (forBody ir21)) K X σ S) K ds [some sc, some (.ref t), o2, some cd, some (.ref lb), some tx, o6, o7, o8, o9] S
  | [], o6, o7, o8, o9, S, h, hl => ⟨True.intro, q o6 o7 o8 o9 S h hl⟩
  | d :: ds, o6, o7, o8, o9, S, h, hl => forW_step True.intro rfl fun K' knx _ _ _ => again_ok h hl nt nc N pos fun o7 o8 o9 S' h' d' => knx _ _ (agains nt nc N pos q ds _ o7 o8 o9 S' h' (d' lb _ nt nc hl))
theorem e_mul {G : Gam} {σ : Env} {S : Sto} {Q : QD} {E : QX} (q : ∀ w : List Nat, w.length = 4001 → Q (.str w) S) : wpE G (.bin .mul (.lit (.str [97])) (.lit (.int 4001))) σ S Q E := by
  have h := q (List.replicate (4001 : Int).toNat 97) (by rw [List.length_replicate]; rfl)
  exact ⟨by decide, by decide, h⟩
theorem e_cmp {G : Gam} {op : Cop} {a b : Ex} {σ : Env} {S : Sto} {Q : QD} {E : QX} (h : wpE G a σ S (fun x S1 => wpE G b σ S1 (fun y S2 => cmpW op x y S2 Q) E) E) : wpE G (.cmp op a b) σ S Q E := h
abbrev rest6 : Stms := match forBody ir21 with
  | .cons _ (.cons _ (.cons _ (.cons _ (.cons _ r)))) => r
  | _ => .nil
/-- values that are none -/
theorem odd_ok {n : Nat} {t c lb : Addr} {sc tx : D} {o2 o6 o7 o8 o9 : Option D} {u : Tm} {ds : List D} {S : Sto} {K : En} {X : EX} (h : Tp t c S) (hl : S lb = some (.lst ds)) (nt : lb ≠ t) (nc : lb ≠ c) (hf : fi u ≤ 24) (hgc : ∀ o ∈ cod u ++ [.call], oG o = true)
    (q : ∀ S', Tp t c S' → K.nx [some sc, some (.ref t), o2, some (.tup (encC (ofL (cod u)))), some (.ref lb), some tx, o6, o7, o8, o9] S') :
    wpSs (lvl prg (n + 300)) rest6 K X [some sc, some (.ref t), o2, some (.tup (encC (ofL (cod u)))), some (.ref lb), some tx, o6, o7, o8, o9] S := by
  have hz := fi_sz u
  have t1 : tot (ofL (cod u)) ≤ 49 := by rw [tot_ofL, cod_T]; omega
  have w1 : wid (ofL (cod u)) ≤ 24 := by rw [wid_ofL, cod_W]; exact hf
  have n1 := nest_wid (ofL (cod u))
  have l1 := encC_len (ofL (cod u))
  dsimp only [rest6, forBody, ir21]
  walk_at "s"
  have e4 : Env.get ([some sc, some (.ref t), o2, some (.tup (encC (ofL (cod u)))), some (.ref lb), some tx, o6, o7, o8, o9]) 4 = some (.ref lb) := rfl
  have e1 : Env.get ([some sc, some (.ref t), o2, some (.tup (encC (ofL (cod u)))), some (.ref lb), some tx, o6, o7, o8, o9]) 1 = some (.ref t) := rfl
  simp only [wpT]
  refine e_cmp (e_call (es_cons (e_lit (es_cons (e_call (es_cons (e_var e1 (es_cons (e_lst (es_cons (e_lit (es_cons (e_lit (es_cons (e_var e4 (es_cons (e_mul fun w hw => es_nil ⟨of_eq_true (sz_le (by simp)), fun p hp => es_nil ?_⟩)))))))))))))))))
  have h1 := h.new (x := .lst [D.non, .int 5, .ref lb, .str w]) hp
  refine w_pick (n := n + 298) h1 Sto.upd_same (new_tp h hp).1 (new_tp h hp).2 (by simp) (by simp) fun d S1 hd h1 d1 => ?_
  have hl1 : S1 lb = some (.lst ds) := d1 _ _ nt nc (by rw [Sto.upd_ne (new_ne hl hp)]; exact hl)
  refine es_nil ?_
  refine w_call (n := n + 299) (by decide) fun Q' E' hq hk hc => w_readno (n := n + 298) (by
    simp only [List.mem_cons, List.not_mem_nil, or_false] at hd
    rcases hd with rfl | rfl | rfl | rfl
    · exact .inl rfl
    · exact .inr (.inl rfl)
    · exact .inr (.inr (.inl ⟨_, _, rfl, hl1⟩))
    · exact .inr (.inr (.inr ⟨_, rfl, hw⟩))) (hk 0 _ ?_)
  walk_at "e"
  walk_at "s"
  walk_at "s"; walk_at "e"
  intro p2 hp2
  refine ⟨of_eq_true (sz_le (by omega)), fun p3 hp3 => ?_⟩
  have h2 := h1.new (x := .lst (encC (ofL (cod u)))) hp2
  have h3 := h2.new (x := .lst [D.non, D.ref p2, D.tup [], D.tup (encC (ofL (cod u)) ++ [D.tup [D.str [99, 97, 108, 108]]]), D.tup [D.tup [D.str [103, 101, 116], D.bl true]]]) hp3
  refine w_pick (n := n + 298) h3 Sto.upd_same (new_tp h2 hp3).1 (new_tp h2 hp3).2 (by simp) (by simp) fun d2 S2 hd2 h4 d4 => ?_
  have hp2' : S2 p2 = some (.lst (encC (ofL (cod u)))) := d4 _ _ (new_tp h1 hp2).1 (new_tp h1 hp2).2 (by rw [Sto.upd_ne (new_ne Sto.upd_same hp3)]; exact Sto.upd_same)
  have ec : encC (ofL (cod u)) ++ [D.tup [D.str [99, 97, 108, 108]]] = encC (ofL (cod u ++ [.call])) := by rw [encC_ofL, encC_ofL, List.map_append]; rfl
  have ecn : top1 (ofL (cod u ++ [.call])) = none := by
    unfold top1
    rw [back_cod]
    rfl
  have tc : tot (ofL (cod u ++ [.call])) ≤ 50 := by
    rw [tot_ofL] at t1 ⊢
    rw [List.map_append, List.sum_append]
    simp only [List.map_cons, List.map_nil, List.sum_cons, List.sum_nil, oT]; omega
  have wc : wid (ofL (cod u ++ [.call])) ≤ 25 := by
    rw [wid_ofL] at w1 ⊢
    rw [List.map_append, List.sum_append]
    simp only [List.map_cons, List.map_nil, List.sum_cons, List.sum_nil, oW]; omega
  have nc2 := nest_wid (ofL (cod u ++ [.call]))
  have seven : ∀ (Q : QD) (E : QX), (∀ S', Sx S2 S' → Q .non S') → (lvl prg (n + 237 + 60)).fn 4 [d2, .int 100] S2 Q E := by
    intro Q E q7
    simp only [List.mem_cons, List.not_mem_nil, or_false] at hd2
    rcases hd2 with rfl | rfl | rfl | rfl | rfl
    · exact n7_non _ S2 Q E q7
    · exact n7_list hp2' q7
    · exact f7 (c := .nil) (left := 100) (n := n + 296) (by simp only [nest]; omega) (by decide) (by decide) rfl q7
    · rw [ec]
      refine f7 (left := 100) (n := n + 296) (by omega) (by omega) (by omega) (good_ofL _ hgc) fun S' x' => ?_
      rw [ecn]
      exact q7 S' x'
    · exact n7_2 _ S2 Q E q7
  refine w_call (n := n + 299) (by decide) fun Q' E' hq hk hc => n7_writeno (n := n + 237) (fun Q0 E0 q0 => seven Q0 E0 q0) fun S3 x3 => hc S3 ?_
  refine w_same (by simp [dd, dds]) (by decide) fun S4 x4 => ?_
  walk_at "e"
  walk_at "s"
  walk_at "s"
  exact q S4 (h4.sx (x3.trans x4))
theorem jn_all (c : Nat) (hc : c < 0x110000) : ∀ ls : List (List Nat), (∀ l ∈ ls, l.all (fun c => decide (c < 0x110000)) = true) → (jn c ls).all (fun c => decide (c < 0x110000)) = true
  | [], _ => rfl
  | [x], h => h x (by simp)
  | x :: y :: r, h => by
    have h1 := h x (by simp)
    have h2 := jn_all c hc (y :: r) fun l hl => h l (List.mem_cons_of_mem _ hl)
    simp only [jn, List.all_append, List.all_cons, h1, h2, decide_eq_true hc, Bool.and_self]
/-- a turn -/
theorem body_ok {n : Nat} {t c : Addr} {sc : D} {o2 o3 o4 o5 o6 o7 o8 o9 : Option D} {S : Sto} {K : En} {X : EX} (h : Tp t c S) (q : ∀ o3 o4 o5 o6 o7 o8 o9 S', Tp t c S' → K.nx [some sc, some (.ref t), o2, o3, o4, o5, o6, o7, o8, o9] S') :
    wpSs (lvl prg (n + 300)) (forBody ir21) K X [some sc, some (.ref t), o2, o3, o4, o5, o6, o7, o8, o9] S := by
  have tl : ∀ G K X σ S', wpSs G (forBody ir21) K X σ S' = wpSs G (match forBody ir21 with
    | .cons a (.cons b (.cons c (.cons d (.cons (.for_ tg it bd) r)))) => .cons a (.cons b (.cons c (.cons d (.cons (.for_ tg it (forBody (forBody ir21))) rest6))))
    | s => s) K X σ S' := fun _ _ _ _ _ => rfl
  rw [tl]
  generalize hB : forBody (forBody ir21) = B
  generalize hR : rest6 = R
  dsimp only [forBody, ir21]
  walk_at "s"; walk_at "e"
  refine w_draw (n := n + 299) (m := 4) h (by omega) (by omega) fun ar S1 har h1 _ => ?_
  refine w_draw (n := n + 299) (m := 24) h1 (by omega) (by omega) fun sz0 S2 hsz h2 _ => ?_
  walk_at "e"
  rw [show (2 + (sz0 : Int)) = ((2 + sz0 : Nat) : Int) by omega]
  refine w_part (2 + sz0) (by omega) (by omega) (by omega) h2 fun u S3 gu cu fu h3 _ => ?_
  have hd := fi_dp u
  have hz := fi_sz u
  refine f14 (n := n + 299) (by omega) (by omega) ?_
  rw [code_C]
  have hg : goodC (ofL (cod u)) = true := good_ofL _ (cod_G u gu cu (by omega))
  have t1 : tot (ofL (cod u)) ≤ 49 := by rw [tot_ofL, cod_T]; omega
  have w1 : wid (ofL (cod u)) ≤ 24 := by rw [wid_ofL, cod_W]; omega
  have n1 := nest_wid (ofL (cod u))
  have l1 := lnC_len2 (ofL (cod u))
  have lk := lnC_lk (ofL (cod u)) hg
  have sl := sum_len (lnC (ofL (cod u))) fun l hl => (lk l hl).2.1
  have N : Nb (lnC (ofL (cod u))) 74 := ⟨lk, by omega⟩
  have ra := rd_all gu cu (by omega)
  have ne : lnC (ofL (cod u)) ≠ [] := fun e => by rw [e] at ra; simp [rdAll] at ra
  have eL : lrD (lnC (ofL (cod u))) = .tup (encC (ofL (cod u))) := by
    unfold lrD
    rw [ra, encC_ofL]
    rfl
  walk_at "s"; walk_at "e"
  refine w_llines (n := n + 299) (by omega) (by omega) hg fun lb S4 hl x4 => ?_
  have h4 := h3.sx x4
  have nt : lb ≠ t := fun e => by
    obtain ⟨s, es⟩ := h4.at_
    rw [← e, hl] at es
    cases e0 : lnC (ofL (cod u)) with
    | nil => exact ne e0
    | cons a r => rw [e0] at es; simp at es
  have nc : lb ≠ c := fun e => by
    obtain ⟨s, es⟩ := h4.cs
    rw [← e, hl] at es
    cases e0 : lnC (ofL (cod u)) with
    | nil => exact ne e0
    | cons a r =>
      rw [e0] at es
      cases s with
      | nil => simp at es
      | cons b s => simp at es
  walk_at "s"; walk_at "e"
  show ∃ ls : List (List Nat), _ ∧ _ ∧ _
  refine ⟨lnC (ofL (cod u)), rd_lst hl, by simp only [List.length_cons, List.length_nil]; omega, ?_⟩
  rw [txt_join]
  have hgc : ∀ o ∈ cod u ++ [.call], oG o = true := fun o ho => by
    rcases List.mem_append.mp ho with ho | ho
    · exact cod_G u gu cu (by omega) o ho
    · rw [List.mem_singleton.mp ho]; rfl
  have pt : pl (.str (jn 10 (lnC (ofL (cod u))))) = true := jn_all 10 (by decide) _ fun l hl => (lk l hl).1
  have pc : pl (.tup (encC (ofL (cod u)))) = true := by
    have h1 := encC_pls _ hg (by omega)
    have h2 := encC_len (ofL (cod u))
    simp only [pl, h1, Bool.and_true, decide_eq_true_eq]
    omega
  have dc := encC_dds (ofL (cod u))
  walk_at "s"; walk_at "e"
  refine w_call (n := n + 299) (by decide) fun Q' E' hq _ _ => w_write (t := u) (n := n + 296) (by omega) (by omega) (by omega) (by omega) hg (top_cod u) fun S5 x5 => hq _ S5 ?_
  refine w_same (by simp only [dd]; omega) pt fun S6 x6 => ?_
  walk_at "e"
  refine w_told (n := n + 99) ne lk (by omega) fun S7 x7 => ?_
  rw [eL]
  refine w_same (by simp only [dd]; omega) pc fun S8 x8 => ?_
  have x48 := ((x5.trans x6).trans x7).trans x8
  walk_at "e"
  walk_at "s"
  subst hB
  walk_at "s"; walk_at "e"
  refine ⟨by decide, by decide, ?_⟩
  refine agains nt nc N (List.length_pos_iff.mpr ne) (fun o6 o7 o8 o9 S9 h9 hl9 => ?_) _ _ _ _ _ S8 (h4.sx x48) (x48 _ _ hl)
  subst hR
  exact odd_ok h9 hl9 nt nc (by omega) hgc fun S10 h10 => q _ _ _ _ _ _ _ S10 h10
theorem turns {n : Nat} {t c : Addr} {sc : D} {K : En} {X : EX} (q : ∀ o2 o3 o4 o5 o6 o7 o8 o9 S', Tp t c S' → K.nx [some sc, some (.ref t), o2, o3, o4, o5, o6, o7, o8, o9] S') : ∀ (ds : List D) (o2 o3 o4 o5 o6 o7 o8 o9 : Option D) (S : Sto), Tp t c S →
    forW (fun _ => True) (.nm 2) (fun K σ S => wpSs (lvl prg (n + 300)) (forBody ir21) K X σ S) K ds [some sc, some (.ref t), o2, o3, o4, o5, o6, o7, o8, o9] S
  | [], o2, o3, o4, o5, o6, o7, o8, o9, S, h => ⟨True.intro, q o2 o3 o4 o5 o6 o7 o8 o9 S h⟩
  | d :: ds, o2, o3, o4, o5, o6, o7, o8, o9, S, h => forW_step True.intro rfl fun K' knx _ _ _ => body_ok h fun o3 o4 o5 o6 o7 o8 o9 S' h' => knx _ _ (turns q ds _ o3 o4 o5 o6 o7 o8 o9 S' h')
theorem pure_law : ∀ (S : Sto) (a : Addr) (ns : List Int), ns.length ≤ 63 → rd S a = some (ns.map D.int) → (lvl prg 680).fn 21 [.ref a] S (fun d _ => d = .bl true) (fun _ _ => False) := by
  intro S a ns hl h
  show (lvl prg (379 + 300 + 1)).fn 21 [.ref a] S (fun d _ => d = .bl true) (fun _ _ => False)
  refine ⟨rfl, ?_⟩
  have tl : ∀ G K X σ S', wpSs G ir21 K X σ S' = wpSs G (match ir21 with
    | .cons a (.cons (.for_ tg it _) r) => .cons a (.cons (.for_ tg it (forBody ir21)) r)
    | s => s) K X σ S' := fun _ _ _ _ _ => rfl
  rw [tl]
  generalize hB : forBody ir21 = B
  dsimp only [ir21]
  walk_at "s"; walk_at "e"
  refine w_tape (n := 678) h hl fun t c S1 h1 x1 => ?_
  subst hB
  walk_at "s"; walk_at "e"
  refine ⟨by decide, by decide, ?_⟩
  refine turns (n := 379) (fun o2 o3 o4 o5 o6 o7 o8 o9 S2 h2 => ?_) _ _ _ _ _ _ _ _ _ S1 h1
  dsimp only
  walk_at "s"; walk_at "e"
end K49
end Mini
end L2
namespace L2
namespace Mini
namespace K49
open PySem PySem.Spec PyProof.Rows
theorem mn_fld0 : ∀ f, f < 6 → fld f ≠ mn 0 := by decide +kernel
theorem mn_fld1 : ∀ f, f < 6 → fld f ≠ mn 1 := by decide +kernel
theorem mn_fld2 : ∀ f, f < 6 → fld f ≠ mn 2 := by decide +kernel
theorem mn_fld3 : ∀ f, f < 6 → fld f ≠ mn 3 := by decide +kernel
end K49
end Mini
end L2
namespace L2
namespace Mini
namespace K49
open PySem PySem.Spec PyProof.Rows
set_option maxHeartbeats 0 in
theorem all_mk {P : Program} {w : World} {K : PySem.W.Frag} {h : Heap} {mg : Str → Option Value} {fl : Addr} (X : K.In h) (G : h.Ns mainGlobals mg) (hfa : mg "law" = some (.ref fl))
    (pure : ∀ (S : Sto) (a : Addr) (ns : List Int), ns.length ≤ 63 → rd S a = some (ns.map D.int) → (lvl prg 680).fn 21 [.ref a] S (fun d _ => d = .bl true) (fun _ _ => False))
    {f0 f1 f2 f3 f4 f5 f6 f7 f8 f9 f10 f11 f12 f13 f14 f15 f16 f17 f18 f19 f20 f21 f22 f23 f24 f25 f26 C0 C1 C2 C3 C4 g3 g4 t4 : Addr}
    {od0 an0 : Option Addr} {sl0 : Array (Option Value)} {oc0 kV0 dc0 pm0 cd0 ct0 : Value}
    {od1 an1 : Option Addr} {sl1 : Array (Option Value)} {oc1 kV1 dc1 pm1 cd1 ct1 : Value}
    {od2 an2 : Option Addr} {sl2 : Array (Option Value)} {oc2 kV2 dc2 pm2 cd2 ct2 : Value}
    {od3 an3 : Option Addr} {sl3 : Array (Option Value)} {oc3 kV3 dc3 pm3 cd3 ct3 : Value}
    {od4 an4 : Option Addr} {sl4 : Array (Option Value)} {oc4 kV4 dc4 pm4 cd4 ct4 : Value}
    {od5 an5 : Option Addr} {sl5 : Array (Option Value)} {oc5 kV5 dc5 pm5 cd5 ct5 : Value}
    {od6 an6 : Option Addr} {sl6 : Array (Option Value)} {oc6 kV6 dc6 pm6 cd6 ct6 : Value}
    {od7 an7 : Option Addr} {sl7 : Array (Option Value)} {oc7 kV7 dc7 pm7 cd7 ct7 : Value}
    {od8 an8 : Option Addr} {sl8 : Array (Option Value)} {oc8 kV8 dc8 pm8 cd8 ct8 : Value}
    {od9 an9 : Option Addr} {sl9 : Array (Option Value)} {oc9 kV9 dc9 pm9 cd9 ct9 : Value}
    {od10 an10 : Option Addr} {sl10 : Array (Option Value)} {oc10 kV10 dc10 pm10 cd10 ct10 : Value}
    {od11 an11 : Option Addr} {sl11 : Array (Option Value)} {oc11 kV11 dc11 pm11 cd11 ct11 : Value}
    {od12 an12 : Option Addr} {sl12 : Array (Option Value)} {oc12 kV12 dc12 pm12 cd12 ct12 : Value}
    {od13 an13 : Option Addr} {sl13 : Array (Option Value)} {oc13 kV13 dc13 pm13 cd13 ct13 : Value}
    {od14 an14 : Option Addr} {sl14 : Array (Option Value)} {oc14 kV14 dc14 pm14 cd14 ct14 : Value}
    {od15 an15 : Option Addr} {sl15 : Array (Option Value)} {oc15 kV15 dc15 pm15 cd15 ct15 : Value}
    {od16 an16 : Option Addr} {sl16 : Array (Option Value)} {oc16 kV16 dc16 pm16 cd16 ct16 : Value}
    {od17 an17 : Option Addr} {sl17 : Array (Option Value)} {oc17 kV17 dc17 pm17 cd17 ct17 : Value}
    {od18 an18 : Option Addr} {sl18 : Array (Option Value)} {oc18 kV18 dc18 pm18 cd18 ct18 : Value}
    {od19 an19 : Option Addr} {sl19 : Array (Option Value)} {oc19 kV19 dc19 pm19 cd19 ct19 : Value}
    {od20 an20 : Option Addr} {sl20 : Array (Option Value)} {oc20 kV20 dc20 pm20 cd20 ct20 : Value}
    {od21 an21 : Option Addr} {sl21 : Array (Option Value)} {oc21 kV21 dc21 pm21 cd21 ct21 : Value}
    {od22 an22 : Option Addr} {sl22 : Array (Option Value)} {oc22 kV22 dc22 pm22 cd22 ct22 : Value}
    {od23 an23 : Option Addr} {sl23 : Array (Option Value)} {oc23 kV23 dc23 pm23 cd23 ct23 : Value}
    {od24 an24 : Option Addr} {sl24 : Array (Option Value)} {oc24 kV24 dc24 pm24 cd24 ct24 : Value}
    {od25 an25 : Option Addr} {sl25 : Array (Option Value)} {oc25 kV25 dc25 pm25 cd25 ct25 : Value}
    {od26 an26 : Option Addr} {sl26 : Array (Option Value)} {oc26 kV26 dc26 pm26 cd26 ct26 : Value}
    {nm3 qn3 : Str} {N3 : Addr} {bs3 bm3 : List Value} {sn3 : List Str} {sb3 : List Value} {ab3 : Bool} {co3 : Option Bool} {dd3 : Option Addr} {m03 m13 m23 m33 m53 : Option Value}
    {odx3 anx3 : Option Addr} {slx3 : Array (Option Value)} {ocx3 kVx3 dcx3 pmx3 cdx3 ctx3 : Value}
    {nm4 qn4 : Str} {N4 : Addr} {bs4 bm4 : List Value} {sn4 : List Str} {sb4 : List Value} {ab4 : Bool} {co4 : Option Bool} {dd4 : Option Addr} {m04 m14 m24 m34 m54 : Option Value}
    {odx4 anx4 : Option Addr} {slx4 : Array (Option Value)} {ocx4 kVx4 dcx4 pmx4 cdx4 ctx4 : Value}
    {tk0 : Tok}
    {tk1 : Tok}
    {tk2 : Tok}
    {tk3 : Tok}
    {tk4_0 : Tok}
    {tk4_1 : Tok}
    {dt4 : Option Addr} {nt4 : Nat} {st4 : Array (Option Value)}
    {tk5 : Tok}
    {tk6 : Tok}
    {tk7 : Tok}
    (aC0 : PySem.W.nsIn K mainGlobals "Open" = some (some (.ref C0)))
    (kC0 : PySem.W.keepIn K (.ref C0) = true)
    (aC1 : PySem.W.nsIn K mainGlobals "Reading" = some (some (.ref C1)))
    (kC1 : PySem.W.keepIn K (.ref C1) = true)
    (aC2 : PySem.W.nsIn K mainGlobals "TermError" = some (some (.ref C2)))
    (kC2 : PySem.W.keepIn K (.ref C2) = true)
    (aC3 : PySem.W.nsIn K mainGlobals "BadText" = some (some (.ref C3)))
    (kC3 : PySem.W.keepIn K (.ref C3) = true)
    (aC4 : PySem.W.nsIn K mainGlobals "BadKind" = some (some (.ref C4)))
    (kC4 : PySem.W.keepIn K (.ref C4) = true)
    (a0_22 : PySem.W.findIn K (.ref C0) "__init__" = some (some (.ref f22)))
    (a0_23 : PySem.W.findIn K (.ref C0) "take" = some (some (.ref f23)))
    (a1_24 : PySem.W.findIn K (.ref C1) "__init__" = some (some (.ref f24)))
    (a1_25 : PySem.W.findIn K (.ref C1) "is_read" = some (some (.ref f25)))
    (a1_26 : PySem.W.findIn K (.ref C1) "is_ended" = some (some (.ref f26)))
    (a0 : PySem.W.nsIn K mainGlobals "is_integer" = some (some (.ref f0)))
    (l0 : K.lookup f0 = some ⟨oc0, od0, .func (PySem.W.fnOf "is_integer" "is_integer" (defArgs s0) (defBody s0) (defScope s0) .none kV0 dc0 pm0 an0 cd0 ct0), sl0⟩)
    (c0 : PySem.W.codeIn K cd0 "is_integer" = true)
    (k0 : PySem.W.keepIn K (.ref f0) = true)
    (a1 : PySem.W.nsIn K mainGlobals "is_name" = some (some (.ref f1)))
    (l1 : K.lookup f1 = some ⟨oc1, od1, .func (PySem.W.fnOf "is_name" "is_name" (defArgs s1) (defBody s1) (defScope s1) .none kV1 dc1 pm1 an1 cd1 ct1), sl1⟩)
    (c1 : PySem.W.codeIn K cd1 "is_name" = true)
    (k1 : PySem.W.keepIn K (.ref f1) = true)
    (a2 : PySem.W.nsIn K mainGlobals "measured" = some (some (.ref f2)))
    (l2 : K.lookup f2 = some ⟨oc2, od2, .func (PySem.W.fnOf "measured" "measured" (defArgs s2) (defBody s2) (defScope s2) .none kV2 dc2 pm2 an2 cd2 ct2), sl2⟩)
    (c2 : PySem.W.codeIn K cd2 "measured" = true)
    (k2 : PySem.W.keepIn K (.ref f2) = true)
    (a3 : PySem.W.nsIn K mainGlobals "parted" = some (some (.ref f3)))
    (l3 : K.lookup f3 = some ⟨oc3, od3, .func (PySem.W.fnOf "parted" "parted" (defArgs s3) (defBody s3) (defScope s3) .none kV3 dc3 pm3 an3 cd3 ct3), sl3⟩)
    (c3 : PySem.W.codeIn K cd3 "parted" = true)
    (k3 : PySem.W.keepIn K (.ref f3) = true)
    (a4 : PySem.W.nsIn K mainGlobals "part_by" = some (some (.ref f4)))
    (l4 : K.lookup f4 = some ⟨oc4, od4, .func (PySem.W.fnOf "part_by" "part_by" (defArgs s4) (defBody s4) (defScope s4) .none kV4 dc4 pm4 an4 cd4 ct4), sl4⟩)
    (c4 : PySem.W.codeIn K cd4 "part_by" = true)
    (k4 : PySem.W.keepIn K (.ref f4) = true)
    (a5 : PySem.W.nsIn K mainGlobals "part_of_code" = some (some (.ref f5)))
    (l5 : K.lookup f5 = some ⟨oc5, od5, .func (PySem.W.fnOf "part_of_code" "part_of_code" (defArgs s5) (defBody s5) (defScope s5) .none kV5 dc5 pm5 an5 cd5 ct5), sl5⟩)
    (c5 : PySem.W.codeIn K cd5 "part_of_code" = true)
    (k5 : PySem.W.keepIn K (.ref f5) = true)
    (a6 : PySem.W.nsIn K mainGlobals "lines_of" = some (some (.ref f6)))
    (l6 : K.lookup f6 = some ⟨oc6, od6, .func (PySem.W.fnOf "lines_of" "lines_of" (defArgs s6) (defBody s6) (defScope s6) .none kV6 dc6 pm6 an6 cd6 ct6), sl6⟩)
    (c6 : PySem.W.codeIn K cd6 "lines_of" = true)
    (k6 : PySem.W.keepIn K (.ref f6) = true)
    (a7 : PySem.W.nsIn K mainGlobals "write_code" = some (some (.ref f7)))
    (l7 : K.lookup f7 = some ⟨oc7, od7, .func (PySem.W.fnOf "write_code" "write_code" (defArgs s7) (defBody s7) (defScope s7) .none kV7 dc7 pm7 an7 cd7 ct7), sl7⟩)
    (c7 : PySem.W.codeIn K cd7 "write_code" = true)
    (k7 : PySem.W.keepIn K (.ref f7) = true)
    (a8 : PySem.W.nsIn K mainGlobals "number_in" = some (some (.ref f8)))
    (l8 : K.lookup f8 = some ⟨oc8, od8, .func (PySem.W.fnOf "number_in" "number_in" (defArgs s8) (defBody s8) (defScope s8) .none kV8 dc8 pm8 an8 cd8 ct8), sl8⟩)
    (c8 : PySem.W.codeIn K cd8 "number_in" = true)
    (k8 : PySem.W.keepIn K (.ref f8) = true)
    (a9 : PySem.W.nsIn K mainGlobals "is_code" = some (some (.ref f9)))
    (l9 : K.lookup f9 = some ⟨oc9, od9, .func (PySem.W.fnOf "is_code" "is_code" (defArgs s9) (defBody s9) (defScope s9) .none kV9 dc9 pm9 an9 cd9 ct9), sl9⟩)
    (c9 : PySem.W.codeIn K cd9 "is_code" = true)
    (k9 : PySem.W.keepIn K (.ref f9) = true)
    (a10 : PySem.W.nsIn K mainGlobals "read_code" = some (some (.ref f10)))
    (l10 : K.lookup f10 = some ⟨oc10, od10, .func (PySem.W.fnOf "read_code" "read_code" (defArgs s10) (defBody s10) (defScope s10) .none kV10 dc10 pm10 an10 cd10 ct10), sl10⟩)
    (c10 : PySem.W.codeIn K cd10 "read_code" = true)
    (k10 : PySem.W.keepIn K (.ref f10) = true)
    (a11 : PySem.W.nsIn K mainGlobals "_law_tape" = some (some (.ref f11)))
    (l11 : K.lookup f11 = some ⟨oc11, od11, .func (PySem.W.fnOf "_law_tape" "_law_tape" (defArgs s11) (defBody s11) (defScope s11) .none kV11 dc11 pm11 an11 cd11 ct11), sl11⟩)
    (c11 : PySem.W.codeIn K cd11 "_law_tape" = true)
    (k11 : PySem.W.keepIn K (.ref f11) = true)
    (a12 : PySem.W.nsIn K mainGlobals "_law_draw" = some (some (.ref f12)))
    (l12 : K.lookup f12 = some ⟨oc12, od12, .func (PySem.W.fnOf "_law_draw" "_law_draw" (defArgs s12) (defBody s12) (defScope s12) .none kV12 dc12 pm12 an12 cd12 ct12), sl12⟩)
    (c12 : PySem.W.codeIn K cd12 "_law_draw" = true)
    (k12 : PySem.W.keepIn K (.ref f12) = true)
    (a13 : PySem.W.nsIn K mainGlobals "_law_pick" = some (some (.ref f13)))
    (l13 : K.lookup f13 = some ⟨oc13, od13, .func (PySem.W.fnOf "_law_pick" "_law_pick" (defArgs s13) (defBody s13) (defScope s13) .none kV13 dc13 pm13 an13 cd13 ct13), sl13⟩)
    (c13 : PySem.W.codeIn K cd13 "_law_pick" = true)
    (k13 : PySem.W.keepIn K (.ref f13) = true)
    (a14 : PySem.W.nsIn K mainGlobals "_law_same" = some (some (.ref f14)))
    (l14 : K.lookup f14 = some ⟨oc14, od14, .func (PySem.W.fnOf "_law_same" "_law_same" (defArgs s14) (defBody s14) (defScope s14) .none kV14 dc14 pm14 an14 cd14 ct14), sl14⟩)
    (c14 : PySem.W.codeIn K cd14 "_law_same" = true)
    (k14 : PySem.W.keepIn K (.ref f14) = true)
    (a15 : PySem.W.nsIn K mainGlobals "_law_part" = some (some (.ref f15)))
    (l15 : K.lookup f15 = some ⟨oc15, od15, .func (PySem.W.fnOf "_law_part" "_law_part" (defArgs s15) (defBody s15) (defScope s15) .none kV15 dc15 pm15 an15 cd15 ct15), sl15⟩)
    (c15 : PySem.W.codeIn K cd15 "_law_part" = true)
    (k15 : PySem.W.keepIn K (.ref f15) = true)
    (a16 : PySem.W.nsIn K mainGlobals "_law_code" = some (some (.ref f16)))
    (l16 : K.lookup f16 = some ⟨oc16, od16, .func (PySem.W.fnOf "_law_code" "_law_code" (defArgs s16) (defBody s16) (defScope s16) .none kV16 dc16 pm16 an16 cd16 ct16), sl16⟩)
    (c16 : PySem.W.codeIn K cd16 "_law_code" = true)
    (k16 : PySem.W.keepIn K (.ref f16) = true)
    (a17 : PySem.W.nsIn K mainGlobals "_law_call" = some (some (.ref f17)))
    (l17 : K.lookup f17 = some ⟨oc17, od17, .func (PySem.W.fnOf "_law_call" "_law_call" (defArgs s17) (defBody s17) (defScope s17) .none kV17 dc17 pm17 an17 cd17 ct17), sl17⟩)
    (c17 : PySem.W.codeIn K cd17 "_law_call" = true)
    (k17 : PySem.W.keepIn K (.ref f17) = true)
    (a18 : PySem.W.nsIn K mainGlobals "_law_lines" = some (some (.ref f18)))
    (l18 : K.lookup f18 = some ⟨oc18, od18, .func (PySem.W.fnOf "_law_lines" "_law_lines" (defArgs s18) (defBody s18) (defScope s18) .none kV18 dc18 pm18 an18 cd18 ct18), sl18⟩)
    (c18 : PySem.W.codeIn K cd18 "_law_lines" = true)
    (k18 : PySem.W.keepIn K (.ref f18) = true)
    (a19 : PySem.W.nsIn K mainGlobals "_law_order" = some (some (.ref f19)))
    (l19 : K.lookup f19 = some ⟨oc19, od19, .func (PySem.W.fnOf "_law_order" "_law_order" (defArgs s19) (defBody s19) (defScope s19) .none kV19 dc19 pm19 an19 cd19 ct19), sl19⟩)
    (c19 : PySem.W.codeIn K cd19 "_law_order" = true)
    (k19 : PySem.W.keepIn K (.ref f19) = true)
    (a20 : PySem.W.nsIn K mainGlobals "_law_read" = some (some (.ref f20)))
    (l20 : K.lookup f20 = some ⟨oc20, od20, .func (PySem.W.fnOf "_law_read" "_law_read" (defArgs s20) (defBody s20) (defScope s20) .none kV20 dc20 pm20 an20 cd20 ct20), sl20⟩)
    (c20 : PySem.W.codeIn K cd20 "_law_read" = true)
    (k20 : PySem.W.keepIn K (.ref f20) = true)
    (a21 : PySem.W.nsIn K mainGlobals "law" = some (some (.ref f21)))
    (l21 : K.lookup f21 = some ⟨oc21, od21, .func (PySem.W.fnOf "law" "law" (defArgs s21) (defBody s21) (defScope s21) .none kV21 dc21 pm21 an21 cd21 ct21), sl21⟩)
    (c21 : PySem.W.codeIn K cd21 "law" = true)
    (k21 : PySem.W.keepIn K (.ref f21) = true)
    (i22 : PySem.W.isFn K (.ref f22) = true)
    (l22 : K.lookup f22 = some ⟨oc22, od22, .func (PySem.W.fnOf "__init__" "Open.__init__" (defArgs s22) (defBody s22) (defScope s22) .none kV22 dc22 pm22 an22 cd22 ct22), sl22⟩)
    (c22 : PySem.W.codeIn K cd22 "Open.__init__" = true)
    (k22 : PySem.W.keepIn K (.ref f22) = true)
    (i23 : PySem.W.isFn K (.ref f23) = true)
    (l23 : K.lookup f23 = some ⟨oc23, od23, .func (PySem.W.fnOf "take" "Open.take" (defArgs s23) (defBody s23) (defScope s23) .none kV23 dc23 pm23 an23 cd23 ct23), sl23⟩)
    (c23 : PySem.W.codeIn K cd23 "Open.take" = true)
    (k23 : PySem.W.keepIn K (.ref f23) = true)
    (i24 : PySem.W.isFn K (.ref f24) = true)
    (l24 : K.lookup f24 = some ⟨oc24, od24, .func (PySem.W.fnOf "__init__" "Reading.__init__" (defArgs s24) (defBody s24) (defScope s24) .none kV24 dc24 pm24 an24 cd24 ct24), sl24⟩)
    (c24 : PySem.W.codeIn K cd24 "Reading.__init__" = true)
    (k24 : PySem.W.keepIn K (.ref f24) = true)
    (i25 : PySem.W.isFn K (.ref f25) = true)
    (l25 : K.lookup f25 = some ⟨oc25, od25, .func (PySem.W.fnOf "is_read" "Reading.is_read" (defArgs s25) (defBody s25) (defScope s25) .none kV25 dc25 pm25 an25 cd25 ct25), sl25⟩)
    (c25 : PySem.W.codeIn K cd25 "Reading.is_read" = true)
    (k25 : PySem.W.keepIn K (.ref f25) = true)
    (i26 : PySem.W.isFn K (.ref f26) = true)
    (l26 : K.lookup f26 = some ⟨oc26, od26, .func (PySem.W.fnOf "is_ended" "Reading.is_ended" (defArgs s26) (defBody s26) (defScope s26) .none kV26 dc26 pm26 an26 cd26 ct26), sl26⟩)
    (c26 : PySem.W.codeIn K cd26 "Reading.is_ended" = true)
    (k26 : PySem.W.keepIn K (.ref f26) = true)
    (pg0 : PySem.W.plainGet K C0 Str.empty = true)
    (hd0 : PySem.W.hasDictIn K C0 = true)
    (po0 : PySem.W.plainOver K C0 = true)
    (sa0 : PySem.W.findIn K (.ref C0) "__setattr__" = some (some (.builtin "object.__setattr__")))
    (mk0 : PySem.W.makesIn K C0 = true)
    (n0_0 : PySem.W.findIn K (.ref C0) "line" = some none)
    (n0_1 : PySem.W.findIn K (.ref C0) "kind" = some none)
    (n0_2 : PySem.W.findIn K (.ref C0) "name" = some none)
    (n0_3 : PySem.W.findIn K (.ref C0) "orders" = some none)
    (n0_4 : PySem.W.findIn K (.ref C0) "many" = some none)
    (n0_5 : PySem.W.findIn K (.ref C0) "rows" = some none)
    (pg1 : PySem.W.plainGet K C1 Str.empty = true)
    (hd1 : PySem.W.hasDictIn K C1 = true)
    (po1 : PySem.W.plainOver K C1 = true)
    (sa1 : PySem.W.findIn K (.ref C1) "__setattr__" = some (some (.builtin "object.__setattr__")))
    (mk1 : PySem.W.makesIn K C1 = true)
    (n1_0 : PySem.W.findIn K (.ref C1) "line" = some none)
    (n1_1 : PySem.W.findIn K (.ref C1) "kind" = some none)
    (n1_2 : PySem.W.findIn K (.ref C1) "name" = some none)
    (n1_3 : PySem.W.findIn K (.ref C1) "orders" = some none)
    (n1_4 : PySem.W.findIn K (.ref C1) "many" = some none)
    (n1_5 : PySem.W.findIn K (.ref C1) "rows" = some none)
    (q2 : PySem.W.excIn K C2 [.type "ValueError", .type "Exception", .type "BaseException", .type "object"] "ValueError.__new__" = true)
    (ex2 : PySem.W.subIn K (.ref C2) (.type "BaseException") = some true)
    (ty2 : PySem.W.typeIn K (.ref C2) = some (.type "type"))
    (ic2 : PySem.W.isClsIn K C2 = true)
    (su2_2 : PySem.W.subIn K (.ref C2) (.ref C2) = some true)
    (su2_3 : PySem.W.subIn K (.ref C2) (.ref C3) = some false)
    (su2_4 : PySem.W.subIn K (.ref C2) (.ref C4) = some false)
    (ga2 : PySem.W.findIn K (.ref C2) "__getattribute__" = some (some (.builtin "BaseException.__getattribute__")))
    (gg2 : PySem.W.findIn K (.ref C2) "__getattr__" = some none)
    (xd2 : PySem.W.hasDictIn K C2 = true)
    (xn2_0 : PySem.W.findIn K (.ref C2) "line" = some none)
    (xn2_1 : PySem.W.findIn K (.ref C2) "kind" = some none)
    (xn2_2 : PySem.W.findIn K (.ref C2) "name" = some none)
    (ex3 : PySem.W.subIn K (.ref C3) (.type "BaseException") = some true)
    (ty3 : PySem.W.typeIn K (.ref C3) = some (.type "type"))
    (ic3 : PySem.W.isClsIn K C3 = true)
    (su3_2 : PySem.W.subIn K (.ref C3) (.ref C2) = some true)
    (su3_3 : PySem.W.subIn K (.ref C3) (.ref C3) = some true)
    (su3_4 : PySem.W.subIn K (.ref C3) (.ref C4) = some false)
    (ga3 : PySem.W.findIn K (.ref C3) "__getattribute__" = some (some (.builtin "BaseException.__getattribute__")))
    (gg3 : PySem.W.findIn K (.ref C3) "__getattr__" = some none)
    (xd3 : PySem.W.hasDictIn K C3 = true)
    (xn3_0 : PySem.W.findIn K (.ref C3) "line" = some none)
    (xn3_1 : PySem.W.findIn K (.ref C3) "kind" = some none)
    (xn3_2 : PySem.W.findIn K (.ref C3) "name" = some none)
    (ex4 : PySem.W.subIn K (.ref C4) (.type "BaseException") = some true)
    (ty4 : PySem.W.typeIn K (.ref C4) = some (.type "type"))
    (ic4 : PySem.W.isClsIn K C4 = true)
    (su4_2 : PySem.W.subIn K (.ref C4) (.ref C2) = some true)
    (su4_3 : PySem.W.subIn K (.ref C4) (.ref C3) = some false)
    (su4_4 : PySem.W.subIn K (.ref C4) (.ref C4) = some true)
    (ga4 : PySem.W.findIn K (.ref C4) "__getattribute__" = some (some (.builtin "BaseException.__getattribute__")))
    (gg4 : PySem.W.findIn K (.ref C4) "__getattr__" = some none)
    (xd4 : PySem.W.hasDictIn K C4 = true)
    (xn4_0 : PySem.W.findIn K (.ref C4) "line" = some none)
    (xn4_1 : PySem.W.findIn K (.ref C4) "kind" = some none)
    (xn4_2 : PySem.W.findIn K (.ref C4) "name" = some none)
    (xL3 : K.lookup C3 = some (excClassObj nm3 qn3 C3 N3 bs3 bm3 true sn3 sb3 ab3 co3 dd3 m03 m13 m23 m33 m53 "ValueError.__new__"))
    (xr3 : PySem.HandSPX.refsVE bm3 = true)
    (xs3 : PySem.W.findIn K (.ref C3) "__setattr__" = some (some (.builtin "object.__setattr__")))
    (xi3 : PySem.W.findIn K (.ref C3) "__init__" = some (some (.ref g3)))
    (xt3 : PySem.W.typeIn K (.ref g3) = some (.type "function"))
    (lx3 : K.lookup g3 = some ⟨ocx3, odx3, .func (PySem.W.fnOf "__init__" "BadText.__init__" (defArgs x3) (defBody x3) (defScope x3) .none kVx3 dcx3 pmx3 anx3 cdx3 ctx3), slx3⟩)
    (cx3 : PySem.W.codeIn K cdx3 "BadText.__init__" = true)
    (kx3 : PySem.W.keepIn K (.ref g3) = true)
    (xL4 : K.lookup C4 = some (excClassObj nm4 qn4 C4 N4 bs4 bm4 true sn4 sb4 ab4 co4 dd4 m04 m14 m24 m34 m54 "ValueError.__new__"))
    (xr4 : PySem.HandSPX.refsVE bm4 = true)
    (xs4 : PySem.W.findIn K (.ref C4) "__setattr__" = some (some (.builtin "object.__setattr__")))
    (xi4 : PySem.W.findIn K (.ref C4) "__init__" = some (some (.ref g4)))
    (xt4 : PySem.W.typeIn K (.ref g4) = some (.type "function"))
    (lx4 : K.lookup g4 = some ⟨ocx4, odx4, .func (PySem.W.fnOf "__init__" "BadKind.__init__" (defArgs x4) (defBody x4) (defScope x4) .none kVx4 dcx4 pmx4 anx4 cdx4 ctx4), slx4⟩)
    (cx4 : PySem.W.codeIn K cdx4 "BadKind.__init__" = true)
    (kx4 : PySem.W.keepIn K (.ref g4) = true)
    (b0 : PySem.W.nsIn K mainGlobals "isinstance" = some none)
    (b1 : PySem.W.nsIn K mainGlobals "int" = some none)
    (b2 : PySem.W.nsIn K mainGlobals "bool" = some none)
    (b3 : PySem.W.nsIn K mainGlobals "all" = some none)
    (b4 : PySem.W.nsIn K mainGlobals "str" = some none)
    (b5 : PySem.W.nsIn K mainGlobals "len" = some none)
    (b6 : PySem.W.nsIn K mainGlobals "max" = some none)
    (b7 : PySem.W.nsIn K mainGlobals "tuple" = some none)
    (b8 : PySem.W.nsIn K mainGlobals "enumerate" = some none)
    (b9 : PySem.W.nsIn K mainGlobals "abs" = some none)
    (b10 : PySem.W.nsIn K mainGlobals "range" = some none)
    (b11 : PySem.W.nsIn K mainGlobals "list" = some none)
    (m0 : PySem.W.nsIn K mainGlobals "MOST_SOURCE" = some (some (.int 4000 tk0)))
    (m1 : PySem.W.nsIn K mainGlobals "MOST_SIZE" = some (some (.int 400 tk1)))
    (m2 : PySem.W.nsIn K mainGlobals "MOST_DEEP" = some (some (.int 100 tk2)))
    (m3 : PySem.W.nsIn K mainGlobals "MOST_NAME" = some (some (.int 12 tk3)))
    (m4 : PySem.W.nsIn K mainGlobals "WORDS" = some (some (.ref t4)))
    (mt4 : K.lookup t4 = some ⟨.type "tuple", dt4, .seq #[.str "let" tk4_0, .str "in" tk4_1] nt4, st4⟩)
    (m5 : PySem.W.nsIn K mainGlobals "LOWER" = some (some (.str "abcdefghijklmnopqrstuvwxyz" tk5)))
    (m6 : PySem.W.nsIn K mainGlobals "DIGITS_terms" = some (some (.str "0123456789" tk6)))
    (m7 : PySem.W.nsIn K mainGlobals "DIGITS_codetext" = some (some (.str "0123456789" tk7)))
    (nl : noList K = true)
    : ∃ fd : FuncData, (∀ (s : Shared) (v : Value), BindsTo s fd ⟨[v], []⟩ [("script", v)]) ∧ ∀ base : Heap, K.In base → base.Ns mainGlobals mg → FnR P w K mg base (L2.CX P w) 682 fl fd ["script"] (SpOut K) := by
  have e : fl = f21 := Value.ref.inj (Option.some.inj (hfa.symm.trans (PySem.W.mg_of X G a21)))
  subst fl
  have F0 := fun_mk (st := s0) l0 c0 k0
  have F1 := fun_mk (st := s1) l1 c1 k1
  have F2 := fun_mk (st := s2) l2 c2 k2
  have F3 := fun_mk (st := s3) l3 c3 k3
  have F4 := fun_mk (st := s4) l4 c4 k4
  have F5 := fun_mk (st := s5) l5 c5 k5
  have F6 := fun_mk (st := s6) l6 c6 k6
  have F7 := fun_mk (st := s7) l7 c7 k7
  have F8 := fun_mk (st := s8) l8 c8 k8
  have F9 := fun_mk (st := s9) l9 c9 k9
  have F10 := fun_mk (st := s10) l10 c10 k10
  have F11 := fun_mk (st := s11) l11 c11 k11
  have F12 := fun_mk (st := s12) l12 c12 k12
  have F13 := fun_mk (st := s13) l13 c13 k13
  have F14 := fun_mk (st := s14) l14 c14 k14
  have F15 := fun_mk (st := s15) l15 c15 k15
  have F16 := fun_mk (st := s16) l16 c16 k16
  have F17 := fun_mk (st := s17) l17 c17 k17
  have F18 := fun_mk (st := s18) l18 c18 k18
  have F19 := fun_mk (st := s19) l19 c19 k19
  have F20 := fun_mk (st := s20) l20 c20 k20
  have F21 := fun_mk (st := s21) l21 c21 k21
  have F22 := fun_mk (st := s22) l22 c22 k22
  have F23 := fun_mk (st := s23) l23 c23 k23
  have F24 := fun_mk (st := s24) l24 c24 k24
  have F25 := fun_mk (st := s25) l25 c25 k25
  have F26 := fun_mk (st := s26) l26 c26 k26
  have B0 := F0.binds (ps := ["value", "low", "high"]) fun _ _ _ _ _ _ us hl => match us, hl with | [_, _, _], _ => rfl
  have B1 := F1.binds (ps := ["value"]) fun _ _ _ _ _ _ us hl => match us, hl with | [_], _ => rfl
  have B2 := F2.binds (ps := ["term"]) fun _ _ _ _ _ _ us hl => match us, hl with | [_], _ => rfl
  have B3 := F3.binds (ps := ["order", "found", "left"]) fun _ _ _ _ _ _ us hl => match us, hl with | [_, _, _], _ => rfl
  have B4 := F4.binds (ps := ["code", "left"]) fun _ _ _ _ _ _ us hl => match us, hl with | [_, _], _ => rfl
  have B5 := F5.binds (ps := ["code"]) fun _ _ _ _ _ _ us hl => match us, hl with | [_], _ => rfl
  have B6 := F6.binds (ps := ["code"]) fun _ _ _ _ _ _ us hl => match us, hl with | [_], _ => rfl
  have B7 := F7.binds (ps := ["code"]) fun _ _ _ _ _ _ us hl => match us, hl with | [_], _ => rfl
  have B8 := F8.binds (ps := ["word"]) fun _ _ _ _ _ _ us hl => match us, hl with | [_], _ => rfl
  have B9 := F9.binds (ps := ["code"]) fun _ _ _ _ _ _ us hl => match us, hl with | [_], _ => rfl
  have B10 := F10.binds (ps := ["text"]) fun _ _ _ _ _ _ us hl => match us, hl with | [_], _ => rfl
  have B11 := F11.binds (ps := ["script"]) fun _ _ _ _ _ _ us hl => match us, hl with | [_], _ => rfl
  have B12 := F12.binds (ps := ["tape", "many"]) fun _ _ _ _ _ _ us hl => match us, hl with | [_, _], _ => rfl
  have B13 := F13.binds (ps := ["tape", "row"]) fun _ _ _ _ _ _ us hl => match us, hl with | [_, _], _ => rfl
  have B14 := F14.binds (ps := ["told", "due"]) fun _ _ _ _ _ _ us hl => match us, hl with | [_, _], _ => rfl
  have B15 := F15.binds (ps := ["tape", "around", "size"]) fun _ _ _ _ _ _ us hl => match us, hl with | [_, _, _], _ => rfl
  have B16 := F16.binds (ps := ["part"]) fun _ _ _ _ _ _ us hl => match us, hl with | [_], _ => rfl
  have B17 := F17.binds (ps := ["call", "value"]) fun _ _ _ _ _ _ us hl => match us, hl with | [_, _], _ => rfl
  have B18 := F18.binds (ps := ["code"]) fun _ _ _ _ _ _ us hl => match us, hl with | [_], _ => rfl
  have B19 := F19.binds (ps := ["line"]) fun _ _ _ _ _ _ us hl => match us, hl with | [_], _ => rfl
  have B20 := F20.binds (ps := ["lines"]) fun _ _ _ _ _ _ us hl => match us, hl with | [_], _ => rfl
  have B21 := F21.binds (ps := ["script"]) fun _ _ _ _ _ _ us hl => match us, hl with | [_], _ => rfl
  have B22 := F22.binds (ps := ["self"]) fun _ _ _ _ _ _ us hl => match us, hl with | [_], _ => rfl
  have B23 := F23.binds (ps := ["self", "order"]) fun _ _ _ _ _ _ us hl => match us, hl with | [_, _], _ => rfl
  have B24 := F24.binds (ps := ["self"]) fun _ _ _ _ _ _ us hl => match us, hl with | [_], _ => rfl
  have B25 := F25.binds (ps := ["self", "line"]) fun _ _ _ _ _ _ us hl => match us, hl with | [_, _], _ => rfl
  have B26 := F26.binds (ps := ["self"]) fun _ _ _ _ _ _ us hl => match us, hl with | [_], _ => rfl
  have Fx3 := fun_mk (st := x3) lx3 cx3 kx3
  have Bx3 := Fx3.binds (ps := ["self", "line"]) fun _ _ _ _ _ _ us hl => match us, hl with | [_, _], _ => rfl
  have T3 : OexC K C3 := ⟨⟨nm3, qn3, N3, bs3, bm3, sn3, sb3, ab3, co3, dd3, m03, m13, m23, m33, m53, xL3, xr3⟩, xs3, ex3, ty3, kC3⟩
  have Fx4 := fun_mk (st := x4) lx4 cx4 kx4
  have Bx4 := Fx4.binds (ps := ["self", "kind", "name"]) fun _ _ _ _ _ _ us hl => match us, hl with | [_, _, _], _ => rfl
  have T4 : OexC K C4 := ⟨⟨nm4, qn4, N4, bs4, bm4, sn4, sb4, ab4, co4, dd4, m04, m14, m24, m34, m54, xL4, xr4⟩, xs4, ex4, ty4, kC4⟩
  have em2_2 : PySem.W.exmOne K (.ref C2) (.ref C2) = some true := exm_of ex2 ic2 ty2 su2_2
  have em2_3 : PySem.W.exmOne K (.ref C2) (.ref C3) = some false := exm_of ex3 ic3 ty3 su2_3
  have em2_4 : PySem.W.exmOne K (.ref C2) (.ref C4) = some false := exm_of ex4 ic4 ty4 su2_4
  have em3_2 : PySem.W.exmOne K (.ref C3) (.ref C2) = some true := exm_of ex2 ic2 ty2 su3_2
  have em3_3 : PySem.W.exmOne K (.ref C3) (.ref C3) = some true := exm_of ex3 ic3 ty3 su3_3
  have em3_4 : PySem.W.exmOne K (.ref C3) (.ref C4) = some false := exm_of ex4 ic4 ty4 su3_4
  have em4_2 : PySem.W.exmOne K (.ref C4) (.ref C2) = some true := exm_of ex2 ic2 ty2 su4_2
  have em4_3 : PySem.W.exmOne K (.ref C4) (.ref C3) = some false := exm_of ex3 ic3 ty3 su4_3
  have em4_4 : PySem.W.exmOne K (.ref C4) (.ref C4) = some true := exm_of ex4 ic4 ty4 su4_4
  have TB : ∀ n, Tab K mg (mkZ K (fun c => [C0, C1, C2, C3, C4].getD c 0) (fun i => [f0, f1, f2, f3, f4, f5, f6, f7, f8, f9, f10, f11, f12, f13, f14, f15, f16, f17, f18, f19, f20, f21, f22, f23, f24, f25, f26].getD i 0)) (lvl prg n) := by
    intro n
    refine ⟨by cases n <;> rfl, by cases n <;> rfl, fun i hi => ?_, fun c hc => ?_, fun x hx => ?_, fun j x d hj => ?_, fun j x d hj => ?_, fun c hc => ?_⟩
    · match i, hi with
      | 0, _ => exact ⟨PySem.W.mg_of X G a0, k0⟩
      | 1, _ => exact ⟨PySem.W.mg_of X G a1, k1⟩
      | 2, _ => exact ⟨PySem.W.mg_of X G a2, k2⟩
      | 3, _ => exact ⟨PySem.W.mg_of X G a3, k3⟩
      | 4, _ => exact ⟨PySem.W.mg_of X G a4, k4⟩
      | 5, _ => exact ⟨PySem.W.mg_of X G a5, k5⟩
      | 6, _ => exact ⟨PySem.W.mg_of X G a6, k6⟩
      | 7, _ => exact ⟨PySem.W.mg_of X G a7, k7⟩
      | 8, _ => exact ⟨PySem.W.mg_of X G a8, k8⟩
      | 9, _ => exact ⟨PySem.W.mg_of X G a9, k9⟩
      | 10, _ => exact ⟨PySem.W.mg_of X G a10, k10⟩
      | 11, _ => exact ⟨PySem.W.mg_of X G a11, k11⟩
      | 12, _ => exact ⟨PySem.W.mg_of X G a12, k12⟩
      | 13, _ => exact ⟨PySem.W.mg_of X G a13, k13⟩
      | 14, _ => exact ⟨PySem.W.mg_of X G a14, k14⟩
      | 15, _ => exact ⟨PySem.W.mg_of X G a15, k15⟩
      | 16, _ => exact ⟨PySem.W.mg_of X G a16, k16⟩
      | 17, _ => exact ⟨PySem.W.mg_of X G a17, k17⟩
      | 18, _ => exact ⟨PySem.W.mg_of X G a18, k18⟩
      | 19, _ => exact ⟨PySem.W.mg_of X G a19, k19⟩
      | 20, _ => exact ⟨PySem.W.mg_of X G a20, k20⟩
      | 21, _ => exact ⟨PySem.W.mg_of X G a21, k21⟩
      | i + 22, hi => exact absurd (show i + 22 < 22 from hi) (by omega)
    · match c, hc with
      | 0, _ => exact ⟨PySem.W.mg_of X G aC0, kC0⟩
      | 1, _ => exact ⟨PySem.W.mg_of X G aC1, kC1⟩
      | 2, _ => exact ⟨PySem.W.mg_of X G aC2, kC2⟩
      | 3, _ => exact ⟨PySem.W.mg_of X G aC3, kC3⟩
      | 4, _ => exact ⟨PySem.W.mg_of X G aC4, kC4⟩
      | c + 5, hc => exact absurd (show c + 5 < 5 from hc) (by omega)
    · have hx : x ∈ nob := hx
      unfold nob at hx
      simp only [List.mem_cons, List.not_mem_nil, or_false] at hx
      rcases hx with rfl | rfl | rfl | rfl | rfl | rfl | rfl | rfl | rfl | rfl | rfl | rfl
      · exact PySem.W.mg_none_of X G b0
      · exact PySem.W.mg_none_of X G b1
      · exact PySem.W.mg_none_of X G b2
      · exact PySem.W.mg_none_of X G b3
      · exact PySem.W.mg_none_of X G b4
      · exact PySem.W.mg_none_of X G b5
      · exact PySem.W.mg_none_of X G b6
      · exact PySem.W.mg_none_of X G b7
      · exact PySem.W.mg_none_of X G b8
      · exact PySem.W.mg_none_of X G b9
      · exact PySem.W.mg_none_of X G b10
      · exact PySem.W.mg_none_of X G b11
    · match j, hj with
      | 0, hj => cases hj; exact ⟨.int 4000, _, PySem.W.mg_of X G m0, ⟨tk0, rfl⟩, fun H => .int⟩
      | 1, hj => cases hj; exact ⟨.int 400, _, PySem.W.mg_of X G m1, ⟨tk1, rfl⟩, fun H => .int⟩
      | 2, hj => cases hj; exact ⟨.int 100, _, PySem.W.mg_of X G m2, ⟨tk2, rfl⟩, fun H => .int⟩
      | 3, hj => cases hj; exact ⟨.int 12, _, PySem.W.mg_of X G m3, ⟨tk3, rfl⟩, fun H => .int⟩
      | 4, hj => cases hj; exact ⟨.ref t4, _, PySem.W.mg_of X G m4, rfl, fun H => (.tup (vs := [.str (st [108, 101, 116]), .str (st [105, 110])]) (.inr ⟨_, _, _, mt4, rfl, rfl, by show 2 ≤ sizeLine; rw [sizeLine_eq]; omega, (.cons ⟨tk4_0, by rfl⟩ (.cons ⟨tk4_1, by rfl⟩ .nil))⟩) (.cons .str (.cons .str .nil)))⟩
      | 5, hj => cases hj; exact ⟨.str (st [97, 98, 99, 100, 101, 102, 103, 104, 105, 106, 107, 108, 109, 110, 111, 112, 113, 114, 115, 116, 117, 118, 119, 120, 121, 122]), _, PySem.W.mg_of X G m5, ⟨tk5, by rfl⟩, fun H => .str⟩
      | 6, hj => cases hj; exact ⟨.str (st [48, 49, 50, 51, 52, 53, 54, 55, 56, 57]), _, PySem.W.mg_of X G m6, ⟨tk6, by rfl⟩, fun H => .str⟩
      | 7, hj => cases hj; exact ⟨.str (st [48, 49, 50, 51, 52, 53, 54, 55, 56, 57]), _, PySem.W.mg_of X G m7, ⟨tk7, by rfl⟩, fun H => .str⟩
      | j + 8, hj => cases hj
    · have hj : (none : Option (Str × List (List Nat × D))) = some (x, d) := hj
      cases hj
    · have hc : ni c = true := hc
      unfold ni at hc
      split at hc
      · cases hc
  have XA : ∀ (base : Heap) n, Xal P w K mg base (mkZ K (fun c => [C0, C1, C2, C3, C4].getD c 0) (fun i => [f0, f1, f2, f3, f4, f5, f6, f7, f8, f9, f10, f11, f12, f13, f14, f15, f16, f17, f18, f19, f20, f21, f22, f23, f24, f25, f26].getD i 0)) (lvl prg n) := by
    intro base n
    have ef : (lvl prg n).xfl = xfl := by cases n <;> rfl
    have es : (lvl prg n).xsub = xsub := by cases n <;> rfl
    refine ⟨fun c hc hl => ?_, fun c hc hl => ?_, fun c hc c' hc' => ?_, fun f hf => ⟨?_, fun c hc => ?_⟩⟩
    · match c, hc, hl with
      | 0, h, _ => exact absurd (show 2 ≤ 0 from h.1) (by omega)
      | 1, h, _ => exact absurd (show 2 ≤ 1 from h.1) (by omega)
      | 2, hc, hl => exact ⟨hc, hl, q2, ex2, ty2⟩
      | 3, _, hl => rw [ef] at hl; cases hl
      | 4, _, hl => rw [ef] at hl; cases hl
      | c + 5, h, _ => exact absurd (show c + 5 < 5 from h.2) (by omega)
    · match c, hc, hl with
      | 0, h, _ => exact absurd (show 2 ≤ 0 from h.1) (by omega)
      | 1, h, _ => exact absurd (show 2 ≤ 1 from h.1) (by omega)
      | 2, _, hl => exact absurd (by rw [ef]; rfl) hl
      | 3, hc, hl =>
        refine ⟨hc, by rw [ef]; show ∀ f ∈ xfl 3, f < 6; decide, by rw [ef]; decide, T3, g3, _, _, xi3, xt3, ?_, Bx3⟩
        rw [ef]
        exact ok_ini1 (f1 := "line")  Fx3 ⟨rfl, rfl, rfl, by decide +kernel, rfl, by decide +kernel, by decide +kernel⟩ T3 xn3_0 fun cdv A outer s H E => (pss_cons (ps_ost (pv 0) (pv 1) rfl) pss_nil)
      | 4, hc, hl =>
        refine ⟨hc, by rw [ef]; show ∀ f ∈ xfl 4, f < 6; decide, by rw [ef]; decide, T4, g4, _, _, xi4, xt4, ?_, Bx4⟩
        rw [ef]
        exact ok_ini2 (f1 := "kind") (f2 := "name") Fx4 ⟨rfl, rfl, rfl, by decide +kernel, rfl, by decide +kernel, by decide +kernel⟩ T4 xn4_1 xn4_2 fun cdv A outer s H E => (pss_cons (ps_ost (pv 0) (pv 1) rfl) (pss_cons (ps_ost (pv 0) (pv 2) rfl) pss_nil))
      | c + 5, h, _ => exact absurd (show c + 5 < 5 from h.2) (by omega)
    · rw [es]
      match c, hc, c', hc' with
      | 0, h, _, _ => exact absurd (show 2 ≤ 0 from h.1) (by omega)
      | 1, h, _, _ => exact absurd (show 2 ≤ 1 from h.1) (by omega)
      | _, _, 0, h => exact absurd (show 2 ≤ 0 from h.1) (by omega)
      | _, _, 1, h => exact absurd (show 2 ≤ 1 from h.1) (by omega)
      | 2, _, 2, _ => exact em2_2
      | 3, _, 2, _ => exact em2_3
      | 4, _, 2, _ => exact em2_4
      | 2, _, 3, _ => exact em3_2
      | 3, _, 3, _ => exact em3_3
      | 4, _, 3, _ => exact em3_4
      | 2, _, 4, _ => exact em4_2
      | 3, _, 4, _ => exact em4_3
      | 4, _, 4, _ => exact em4_4
      | c + 5, h, _, _ => exact absurd (show c + 5 < 5 from h.2) (by omega)
      | _, _, c + 5, h => exact absurd (show c + 5 < 5 from h.2) (by omega)
    · exact Nat.lt_of_lt_of_le (show f < 3 from hf) (by show 3 ≤ 6; decide)
    · match f, hf, c, hc with
      | 0, _, 2, _ => exact ⟨ga2, gg2, xn2_0, ex2, xd2⟩
      | 0, _, 3, _ => exact ⟨ga3, gg3, xn3_0, ex3, xd3⟩
      | 0, _, 4, _ => exact ⟨ga4, gg4, xn4_0, ex4, xd4⟩
      | 1, _, 2, _ => exact ⟨ga2, gg2, xn2_1, ex2, xd2⟩
      | 1, _, 3, _ => exact ⟨ga3, gg3, xn3_1, ex3, xd3⟩
      | 1, _, 4, _ => exact ⟨ga4, gg4, xn4_1, ex4, xd4⟩
      | 2, _, 2, _ => exact ⟨ga2, gg2, xn2_2, ex2, xd2⟩
      | 2, _, 3, _ => exact ⟨ga3, gg3, xn3_2, ex3, xd3⟩
      | 2, _, 4, _ => exact ⟨ga4, gg4, xn4_2, ex4, xd4⟩
      | _, _, 0, h => exact absurd (show 2 ≤ 0 from h.1) (by omega)
      | _, _, 1, h => exact absurd (show 2 ≤ 1 from h.1) (by omega)
      | _, _, c + 5, h => exact absurd (show c + 5 < 5 from h.2) (by omega)
      | f + 3, h, _, _ => exact absurd (show f + 3 < 3 from h) (by omega)
  refine ⟨PySem.W.fnOf "law" "law" (defArgs s21) (defBody s21) (defScope s21) .none kV21 dc21 pm21 an21 cd21 ct21, fun s v => .of_eq rfl, fun base KB GB => ?_⟩
  have SD : Std P w K mg base (mkZ K (fun c => [C0, C1, C2, C3, C4].getD c 0) (fun i => [f0, f1, f2, f3, f4, f5, f6, f7, f8, f9, f10, f11, f12, f13, f14, f15, f16, f17, f18, f19, f20, f21, f22, f23, f24, f25, f26].getD i 0)) prg := by
    refine ⟨rfl, fun c hc => ?_, fun c f hc hf => ?_, fun c m i h => ?_, fun c m i h f hf => ?_, fun c i h => ?_, fun i L m b h => ?_⟩
    · match c, hc with
      | 0, _ => exact ⟨pg0, hd0, po0, sa0⟩
      | 1, _ => exact ⟨pg1, hd1, po1, sa1⟩
      | c + 2, hc => exact absurd (show c + 2 < 2 from hc) (by omega)
    · match c, hc, f, hf with
      | 0, _, 0, _ => exact n0_0
      | 0, _, 1, _ => exact n0_1
      | 0, _, 2, _ => exact n0_2
      | 0, _, 3, _ => exact n0_3
      | 0, _, 4, _ => exact n0_4
      | 0, _, 5, _ => exact n0_5
      | 1, _, 0, _ => exact n1_0
      | 1, _, 1, _ => exact n1_1
      | 1, _, 2, _ => exact n1_2
      | 1, _, 3, _ => exact n1_3
      | 1, _, 4, _ => exact n1_4
      | 1, _, 5, _ => exact n1_5
      | c + 2, hc, _, _ => exact absurd (show c + 2 < 2 from hc) (by omega)
      | _, _, f + 6, hf => exact absurd (show f + 6 < 6 from hf) (by omega)
    · have h : mt c m = some i := h
      unfold mt at h
      split at h <;> cases h
      · exact ⟨a0_22, i22, k22⟩
      · exact ⟨a0_23, i23, k23⟩
      · exact ⟨a1_24, i24, k24⟩
      · exact ⟨a1_25, i25, k25⟩
      · exact ⟨a1_26, i26, k26⟩
    · have h : mt c m = some i := h
      unfold mt at h
      split at h <;> cases h
      · exact mn_fld0 f hf
      · exact mn_fld1 f hf
      · exact mn_fld0 f hf
      · exact mn_fld2 f hf
      · exact mn_fld3 f hf
    · have h : io c = some i := h
      unfold io at h
      split at h <;> cases h
      · exact ⟨by show 0 < 2; decide, mk0, a0_22, i22, kC0⟩
      · exact ⟨by show 1 < 2; decide, mk1, a1_24, i24, kC1⟩
    · match i, h with
      | 0, h =>
        cases h
        exact ⟨"is_integer", "is_integer", s0, ["value", "low", "high"], ["value", "low", "high"], _, F0, ⟨rfl, rfl, rfl, by decide +kernel, rfl, by decide +kernel, by decide +kernel⟩, B0, rfl, rfl, fun n cdv A outer s H E M => d0 M (XA base n)⟩
      | 1, h =>
        cases h
        exact ⟨"is_name", "is_name", s1, ["value", "sign"], ["value"], _, F1, ⟨rfl, rfl, rfl, by decide +kernel, rfl, by decide +kernel, by decide +kernel⟩, B1, rfl, rfl, fun n cdv A outer s H E M => d1 M (XA base n)⟩
      | 2, h =>
        cases h
        exact ⟨"measured", "measured", s2, ["term", "rows", "many", "most", "one", "deep"], ["term"], _, F2, ⟨rfl, rfl, rfl, by decide +kernel, rfl, by decide +kernel, by decide +kernel⟩, B2, rfl, rfl, fun n cdv A outer s H E M => d2 M (XA base n)⟩
      | 3, h =>
        cases h
        exact ⟨"parted", "parted", s3, ["order", "found", "left", "form", "body", "argument"], ["order", "found", "left"], _, F3, ⟨rfl, rfl, rfl, by decide +kernel, rfl, by decide +kernel, by decide +kernel⟩, B3, rfl, rfl, fun n cdv A outer s H E M => d3 M (XA base n)⟩
      | 4, h =>
        cases h
        exact ⟨"part_by", "part_by", s4, ["code", "left", "found", "order"], ["code", "left"], _, F4, ⟨rfl, rfl, rfl, by decide +kernel, rfl, by decide +kernel, by decide +kernel⟩, B4, rfl, rfl, fun n cdv A outer s H E M => d4 M (XA base n)⟩
      | 5, h =>
        cases h
        exact ⟨"part_of_code", "part_of_code", s5, ["code", "part", "size", "depth"], ["code"], _, F5, ⟨rfl, rfl, rfl, by decide +kernel, rfl, by decide +kernel, by decide +kernel⟩, B5, rfl, rfl, fun n cdv A outer s H E M => d5 M (XA base n)⟩
      | 6, h =>
        cases h
        exact ⟨"lines_of", "lines_of", s6, ["code", "found", "order"], ["code"], _, F6, ⟨rfl, rfl, rfl, by decide +kernel, rfl, by decide +kernel, by decide +kernel⟩, B6, rfl, rfl, fun n cdv A outer s H E M => d6 M (XA base n)⟩
      | 7, h =>
        cases h
        exact ⟨"write_code", "write_code", s7, ["code"], ["code"], _, F7, ⟨rfl, rfl, rfl, by decide +kernel, rfl, by decide +kernel, by decide +kernel⟩, B7, rfl, rfl, fun n cdv A outer s H E M => d7 M (XA base n)⟩
      | 8, h =>
        cases h
        exact ⟨"number_in", "number_in", s8, ["word", "sign"], ["word"], _, F8, ⟨rfl, rfl, rfl, by decide +kernel, rfl, by decide +kernel, by decide +kernel⟩, B8, rfl, rfl, fun n cdv A outer s H E M => d8 M (XA base n)⟩
      | 9, h =>
        cases h
        exact ⟨"is_code", "is_code", s9, ["code", "part", "size", "depth"], ["code"], _, F9, ⟨rfl, rfl, rfl, by decide +kernel, rfl, by decide +kernel, by decide +kernel⟩, B9, rfl, rfl, fun n cdv A outer s H E M => d9 M (XA base n)⟩
      | 10, h =>
        cases h
        exact ⟨"read_code", "read_code", s10, ["text", "reading", "lines", "code", "number", "line"], ["text"], _, F10, ⟨rfl, rfl, rfl, by decide +kernel, rfl, by decide +kernel, by decide +kernel⟩, B10, rfl, rfl, fun n cdv A outer s H E M => d10 M (XA base n)⟩
      | 11, h =>
        cases h
        exact ⟨"_law_tape", "_law_tape", s11, ["script", "seed", "cell"], ["script"], _, F11, ⟨rfl, rfl, rfl, by decide +kernel, rfl, by decide +kernel, by decide +kernel⟩, B11, rfl, rfl, fun n cdv A outer s H E M => d11 M (XA base n)⟩
      | 12, h =>
        cases h
        exact ⟨"_law_draw", "_law_draw", s12, ["tape", "many", "cells", "number"], ["tape", "many"], _, F12, ⟨rfl, rfl, rfl, by decide +kernel, rfl, by decide +kernel, by decide +kernel⟩, B12, rfl, rfl, fun n cdv A outer s H E M => d12 M (XA base n)⟩
      | 13, h =>
        cases h
        exact ⟨"_law_pick", "_law_pick", s13, ["tape", "row"], ["tape", "row"], _, F13, ⟨rfl, rfl, rfl, by decide +kernel, rfl, by decide +kernel, by decide +kernel⟩, B13, rfl, rfl, fun n cdv A outer s H E M => d13 M (XA base n)⟩
      | 14, h =>
        cases h
        exact ⟨"_law_same", "_law_same", s14, ["told", "due", "k"], ["told", "due"], _, F14, ⟨rfl, rfl, rfl, by decide +kernel, rfl, by decide +kernel, by decide +kernel⟩, B14, rfl, rfl, fun n cdv A outer s H E M => d14 M (XA base n)⟩
      | 15, h =>
        cases h
        exact ⟨"_law_part", "_law_part", s15, ["tape", "around", "size", "pick", "left"], ["tape", "around", "size"], _, F15, ⟨rfl, rfl, rfl, by decide +kernel, rfl, by decide +kernel, by decide +kernel⟩, B15, rfl, rfl, fun n cdv A outer s H E M => d15 M (XA base n)⟩
      | 16, h =>
        cases h
        exact ⟨"_law_code", "_law_code", s16, ["part"], ["part"], _, F16, ⟨rfl, rfl, rfl, by decide +kernel, rfl, by decide +kernel, by decide +kernel⟩, B16, rfl, rfl, fun n cdv A outer s H E M => d16 M (XA base n)⟩
      | 17, h =>
        cases h
        exact ⟨"_law_call", "_law_call", s17, ["call", "value", "error", "told"], ["call", "value"], _, F17, ⟨rfl, rfl, rfl, by decide +kernel, rfl, by decide +kernel, by decide +kernel⟩, B17, rfl, rfl, fun n cdv A outer s H E M => d17 M (XA base n)⟩
      | 18, h =>
        cases h
        exact ⟨"_law_lines", "_law_lines", s18, ["code", "found", "order", "one"], ["code"], _, F18, ⟨rfl, rfl, rfl, by decide +kernel, rfl, by decide +kernel, by decide +kernel⟩, B18, rfl, rfl, fun n cdv A outer s H E M => d18 M (XA base n)⟩
      | 19, h =>
        cases h
        exact ⟨"_law_order", "_law_order", s19, ["line", "parts", "letters", "sign"], ["line"], _, F19, ⟨rfl, rfl, rfl, by decide +kernel, rfl, by decide +kernel, by decide +kernel⟩, B19, rfl, rfl, fun n cdv A outer s H E M => d19 M (XA base n)⟩
      | 20, h =>
        cases h
        exact ⟨"_law_read", "_law_read", s20, ["lines", "rows", "many", "k", "code", "order"], ["lines"], _, F20, ⟨rfl, rfl, rfl, by decide +kernel, rfl, by decide +kernel, by decide +kernel⟩, B20, rfl, rfl, fun n cdv A outer s H E M => d20 M (XA base n)⟩
      | 21, h =>
        cases h
        exact ⟨"law", "law", s21, ["script", "tape", "turn", "code", "lines", "text", "again", "k", "other", "near"], ["script"], _, F21, ⟨rfl, rfl, rfl, by decide +kernel, rfl, by decide +kernel, by decide +kernel⟩, B21, rfl, rfl, fun n cdv A outer s H E M => d21 M (XA base n)⟩
      | 22, h =>
        cases h
        exact ⟨"__init__", "Open.__init__", s22, ["self"], ["self"], _, F22, ⟨rfl, rfl, rfl, by decide +kernel, rfl, by decide +kernel, by decide +kernel⟩, B22, rfl, rfl, fun n cdv A outer s H E M => d22 M (XA base n)⟩
      | 23, h =>
        cases h
        exact ⟨"take", "Open.take", s23, ["self", "order"], ["self", "order"], _, F23, ⟨rfl, rfl, rfl, by decide +kernel, rfl, by decide +kernel, by decide +kernel⟩, B23, rfl, rfl, fun n cdv A outer s H E M => d23 M (XA base n)⟩
      | 24, h =>
        cases h
        exact ⟨"__init__", "Reading.__init__", s24, ["self"], ["self"], _, F24, ⟨rfl, rfl, rfl, by decide +kernel, rfl, by decide +kernel, by decide +kernel⟩, B24, rfl, rfl, fun n cdv A outer s H E M => d24 M (XA base n)⟩
      | 25, h =>
        cases h
        exact ⟨"is_read", "Reading.is_read", s25, ["self", "line", "now", "number"], ["self", "line"], _, F25, ⟨rfl, rfl, rfl, by decide +kernel, rfl, by decide +kernel, by decide +kernel⟩, B25, rfl, rfl, fun n cdv A outer s H E M => d25 M (XA base n)⟩
      | 26, h =>
        cases h
        exact ⟨"is_ended", "Reading.is_ended", s26, ["self", "code"], ["self"], _, F26, ⟨rfl, rfl, rfl, by decide +kernel, rfl, by decide +kernel, by decide +kernel⟩, B26, rfl, rfl, fun n cdv A outer s H E M => d26 M (XA base n)⟩
      | i + 27, h => cases h
  have FX := fn_lvl (n := 679) (i := 21) (st := s21) (N := ["script", "tape", "turn", "code", "lines", "text", "again", "k", "other", "near"]) (ps := ["script"]) (lvl_ok SD TB 679) TB rfl F21 ⟨rfl, rfl, rfl, by decide +kernel, rfl, by decide +kernel, by decide +kernel⟩ rfl rfl (fun cdv A outer s H E M => d21 M (XA base 679))
  exact FX.imp fun vs H Q E h => sp_out nl pure vs H Q E h
end K49
end Mini
end L2
open PySem PySem.W PyProof.Rows
set_option maxRecDepth 100000 in
set_option maxHeartbeats 0 in
theorem PySem.Challenge.cw_normalhouse_k49_code_as_texts_holds : PySem.Challenge.rw_normalhouse_k49_code_as_texts.Holds := by
  w_on; o_law; k_head; (case hw => w_witness2)
  k_fill
  refine L2.Mini.walkM (l := PySem.Challenge.rw_normalhouse_k49_code_as_texts) (j := 682) (k := 231) rfl rfl ⟨rfl, by decide, by decide⟩ (by decide) (by decide) (fun w h Y => PySem.W.kIn_of Y) ?F
  case F =>
    intro w mg fa h KX G hmg
    refine' L2.Mini.K49.all_mk KX G hmg L2.Mini.K49.pure_law ?aC0 ?kC0 ?aC1 ?kC1 ?aC2 ?kC2 ?aC3 ?kC3 ?aC4 ?kC4 ?a0_22 ?a0_23 ?a1_24 ?a1_25 ?a1_26 ?a0 ?l0 ?c0 ?k0 ?a1 ?l1 ?c1 ?k1 ?a2 ?l2 ?c2 ?k2 ?a3 ?l3 ?c3 ?k3 ?a4 ?l4 ?c4 ?k4 ?a5 ?l5 ?c5 ?k5 ?a6 ?l6 ?c6 ?k6 ?a7 ?l7 ?c7 ?k7 ?a8 ?l8 ?c8 ?k8 ?a9 ?l9 ?c9 ?k9 ?a10 ?l10 ?c10 ?k10 ?a11 ?l11 ?c11 ?k11 ?a12 ?l12 ?c12 ?k12 ?a13 ?l13 ?c13 ?k13 ?a14 ?l14 ?c14 ?k14 ?a15 ?l15 ?c15 ?k15 ?a16 ?l16 ?c16 ?k16 ?a17 ?l17 ?c17 ?k17 ?a18 ?l18 ?c18 ?k18 ?a19 ?l19 ?c19 ?k19 ?a20 ?l20 ?c20 ?k20 ?a21 ?l21 ?c21 ?k21 ?i22 ?l22 ?c22 ?k22 ?i23 ?l23 ?c23 ?k23 ?i24 ?l24 ?c24 ?k24 ?i25 ?l25 ?c25 ?k25 ?i26 ?l26 ?c26 ?k26 ?pg0 ?hd0 ?po0 ?sa0 ?mk0 ?n0_0 ?n0_1 ?n0_2 ?n0_3 ?n0_4 ?n0_5 ?pg1 ?hd1 ?po1 ?sa1 ?mk1 ?n1_0 ?n1_1 ?n1_2 ?n1_3 ?n1_4 ?n1_5 ?q2 ?ex2 ?ty2 ?ic2 ?su2_2 ?su2_3 ?su2_4 ?ga2 ?gg2 ?xd2 ?xn2_0 ?xn2_1 ?xn2_2 ?ex3 ?ty3 ?ic3 ?su3_2 ?su3_3 ?su3_4 ?ga3 ?gg3 ?xd3 ?xn3_0 ?xn3_1 ?xn3_2 ?ex4 ?ty4 ?ic4 ?su4_2 ?su4_3 ?su4_4 ?ga4 ?gg4 ?xd4 ?xn4_0 ?xn4_1 ?xn4_2 ?xL3 ?xr3 ?xs3 ?xi3 ?xt3 ?lx3 ?cx3 ?kx3 ?xL4 ?xr4 ?xs4 ?xi4 ?xt4 ?lx4 ?cx4 ?kx4 ?b0 ?b1 ?b2 ?b3 ?b4 ?b5 ?b6 ?b7 ?b8 ?b9 ?b10 ?b11 ?m0 ?m1 ?m2 ?m3 ?m4 ?mt4 ?m5 ?m6 ?m7 ?nl
    (case aC0 => k_is)
    (case kC0 => k_is)
    (case aC1 => k_is)
    (case kC1 => k_is)
    (case aC2 => k_is)
    (case kC2 => k_is)
    (case aC3 => k_is)
    (case kC3 => k_is)
    (case aC4 => k_is)
    (case kC4 => k_is)
    (case a0_22 => k_is)
    (case a0_23 => k_is)
    (case a1_24 => k_is)
    (case a1_25 => k_is)
    (case a1_26 => k_is)
    (case a0 => k_is)
    (case l0 => k_is)
    (case c0 => k_is)
    (case k0 => k_is)
    (case a1 => k_is)
    (case l1 => k_is)
    (case c1 => k_is)
    (case k1 => k_is)
    (case a2 => k_is)
    (case l2 => k_is)
    (case c2 => k_is)
    (case k2 => k_is)
    (case a3 => k_is)
    (case l3 => k_is)
    (case c3 => k_is)
    (case k3 => k_is)
    (case a4 => k_is)
    (case l4 => k_is)
    (case c4 => k_is)
    (case k4 => k_is)
    (case a5 => k_is)
    (case l5 => k_is)
    (case c5 => k_is)
    (case k5 => k_is)
    (case a6 => k_is)
    (case l6 => k_is)
    (case c6 => k_is)
    (case k6 => k_is)
    (case a7 => k_is)
    (case l7 => k_is)
    (case c7 => k_is)
    (case k7 => k_is)
    (case a8 => k_is)
    (case l8 => k_is)
    (case c8 => k_is)
    (case k8 => k_is)
    (case a9 => k_is)
    (case l9 => k_is)
    (case c9 => k_is)
    (case k9 => k_is)
    (case a10 => k_is)
    (case l10 => k_is)
    (case c10 => k_is)
    (case k10 => k_is)
    (case a11 => k_is)
    (case l11 => k_is)
    (case c11 => k_is)
    (case k11 => k_is)
    (case a12 => k_is)
    (case l12 => k_is)
    (case c12 => k_is)
    (case k12 => k_is)
    (case a13 => k_is)
    (case l13 => k_is)
    (case c13 => k_is)
    (case k13 => k_is)
    (case a14 => k_is)
    (case l14 => k_is)
    (case c14 => k_is)
    (case k14 => k_is)
    (case a15 => k_is)
    (case l15 => k_is)
    (case c15 => k_is)
    (case k15 => k_is)
    (case a16 => k_is)
    (case l16 => k_is)
    (case c16 => k_is)
    (case k16 => k_is)
    (case a17 => k_is)
    (case l17 => k_is)
    (case c17 => k_is)
    (case k17 => k_is)
    (case a18 => k_is)
    (case l18 => k_is)
    (case c18 => k_is)
    (case k18 => k_is)
    (case a19 => k_is)
    (case l19 => k_is)
    (case c19 => k_is)
    (case k19 => k_is)
    (case a20 => k_is)
    (case l20 => k_is)
    (case c20 => k_is)
    (case k20 => k_is)
    (case a21 => k_is)
    (case l21 => k_is)
    (case c21 => k_is)
    (case k21 => k_is)
    (case i22 => k_is)
    (case l22 => k_is)
    (case c22 => k_is)
    (case k22 => k_is)
    (case i23 => k_is)
    (case l23 => k_is)
    (case c23 => k_is)
    (case k23 => k_is)
    (case i24 => k_is)
    (case l24 => k_is)
    (case c24 => k_is)
    (case k24 => k_is)
    (case i25 => k_is)
    (case l25 => k_is)
    (case c25 => k_is)
    (case k25 => k_is)
    (case i26 => k_is)
    (case l26 => k_is)
    (case c26 => k_is)
    (case k26 => k_is)
    (case pg0 => k_is)
    (case hd0 => k_is)
    (case po0 => k_is)
    (case sa0 => k_is)
    (case mk0 => k_is)
    (case n0_0 => k_is)
    (case n0_1 => k_is)
    (case n0_2 => k_is)
    (case n0_3 => k_is)
    (case n0_4 => k_is)
    (case n0_5 => k_is)
    (case pg1 => k_is)
    (case hd1 => k_is)
    (case po1 => k_is)
    (case sa1 => k_is)
    (case mk1 => k_is)
    (case n1_0 => k_is)
    (case n1_1 => k_is)
    (case n1_2 => k_is)
    (case n1_3 => k_is)
    (case n1_4 => k_is)
    (case n1_5 => k_is)
    (case q2 => k_exc)
    (case ex2 => k_is)
    (case ty2 => k_is)
    (case ic2 => k_is)
    (case su2_2 => k_is)
    (case su2_3 => k_is)
    (case su2_4 => k_is)
    (case ga2 => k_is)
    (case gg2 => k_is)
    (case xd2 => k_is)
    (case xn2_0 => k_is)
    (case xn2_1 => k_is)
    (case xn2_2 => k_is)
    (case ex3 => k_is)
    (case ty3 => k_is)
    (case ic3 => k_is)
    (case su3_2 => k_is)
    (case su3_3 => k_is)
    (case su3_4 => k_is)
    (case ga3 => k_is)
    (case gg3 => k_is)
    (case xd3 => k_is)
    (case xn3_0 => k_is)
    (case xn3_1 => k_is)
    (case xn3_2 => k_is)
    (case ex4 => k_is)
    (case ty4 => k_is)
    (case ic4 => k_is)
    (case su4_2 => k_is)
    (case su4_3 => k_is)
    (case su4_4 => k_is)
    (case ga4 => k_is)
    (case gg4 => k_is)
    (case xd4 => k_is)
    (case xn4_0 => k_is)
    (case xn4_1 => k_is)
    (case xn4_2 => k_is)
    (case xL3 => k_is)
    (case xr3 => decide +kernel)
    (case xs3 => k_is)
    (case xi3 => k_is)
    (case xt3 => k_is)
    (case lx3 => k_is)
    (case cx3 => k_is)
    (case kx3 => k_is)
    (case xL4 => k_is)
    (case xr4 => decide +kernel)
    (case xs4 => k_is)
    (case xi4 => k_is)
    (case xt4 => k_is)
    (case lx4 => k_is)
    (case cx4 => k_is)
    (case kx4 => k_is)
    (case b0 => k_is)
    (case b1 => k_is)
    (case b2 => k_is)
    (case b3 => k_is)
    (case b4 => k_is)
    (case b5 => k_is)
    (case b6 => k_is)
    (case b7 => k_is)
    (case b8 => k_is)
    (case b9 => k_is)
    (case b10 => k_is)
    (case b11 => k_is)
    (case m0 => k_is)
    (case m1 => k_is)
    (case m2 => k_is)
    (case m3 => k_is)
    (case m4 => k_is)
    (case mt4 => k_is)
    (case m5 => k_is)
    (case m6 => k_is)
    (case m7 => k_is)
    (case nl => rfl)
