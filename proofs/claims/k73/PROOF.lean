import PyProof.Rows.All
import Wide.All
import OpenK.AllK
import Wide.FinOn
import HandS.ForMost
import HandS.ForExc
import HandS.Conv
import HandS.IsInst
import HandS.ExcValue
import HandS.ExcInit
import HandS.ExcIs
import HandS.ExcField
import HandS.Lambda
import KE.DataEq
import HandS.TupAny
import HandS.RevTup
import HandS.Style
import HandS.Wide
import HandS.TupMul
import HandS.SetFor
import KE.DatumIndex
import HandS.NoneIn
import KE.GoesEnum
import HandS.Walk
import HandS.Zip
import HandS.SortInts
import HandS.More
import KE.SortData
import HandS.Set
import HandS.SetBool
import HandS.DictComp
import KE.KExcIs
import HandS.WordsExc
import HandS.TryOnly
import KE.KUnpackStar
import PyProof.StrOps2
import HandS.WordsDict
import HandS.TupSets
import KE.KeyNested
import PyProof.TupleOfStr
import KE.GoesEnumKw
import PyProof.Rows.CallKw2
import KE.DataMinMax
import HandS.EndOwn
import HandS.Finally
import HandS.ListItems
import HandS.DictTup
import KE.KEqDict
import PySem.Challenge.RW_allreads_k73_trees_refused
set_option Elab.async false
set_option linter.all false
set_option maxRecDepth 100000
set_option maxHeartbeats 4000000
set_option autoImplicit false
namespace G3
open PySem L2

/-! ### values as trees, the heap of what may change -/
inductive Dv where
  | non | bl (b : Bool) | int (i : Int) | str (x : Str) | tup (ds : List Dv) | lst (ds : List Dv) | ref (a : Addr) | obj (n : Str) | ty (n : String)
inductive Mo where
  | lst (ds : List Dv)
  | ins (n : Str) (fs : List (Str × Dv))
  /-- an exception of the own class n; its fields never change -/
  | exc (n : Str) (fs : List (Str × Dv))
  | dK (kvs : List (Key × Dv))
  | dT (kvs : List (List Key × Dv))
  /-- while it is walked: read, not written -/
  | lkK (kvs : List (Key × Dv))
  | lkT (kvs : List (List Key × Dv))
  /-- the lambda that the module's def n hands over; it never changes -/
  | lam (n : Str)
abbrev Mh := Addr → Option Mo
def mput (h : Mh) (a : Addr) (o : Mo) : Mh := fun b => if b = a then some o else h b
def mdel (h : Mh) (a : Addr) : Mh := fun b => if b = a then none else h b
theorem mput_same {h : Mh} {a : Addr} {o : Mo} : mput h a o a = some o := by unfold mput; rw [if_pos rfl]
theorem mput_ne {h : Mh} {a b : Addr} {o : Mo} (n : b ≠ a) : mput h a o b = h b := by unfold mput; rw [if_neg n]
theorem mdel_same {h : Mh} {a : Addr} : mdel h a a = none := by unfold mdel; rw [if_pos rfl]
theorem mdel_ne {h : Mh} {a b : Addr} (n : b ≠ a) : mdel h a b = h b := by unfold mdel; rw [if_neg n]
theorem mput_mput {h : Mh} {a : Addr} {o u : Mo} : mput (mput h a o) a u = mput h a u := by
  funext b; unfold mput; split <;> rfl

/-- the state told: what may change, what is known, all that is tracked -/
structure Wd where
  h : Mh
  G : Hp
  H : Hp

/-- the own class of that name -/
def clsAt (K : PySem.W.Frag) (n : Str) (C : Addr) : Prop := PySem.W.nsIn K mainGlobals n = some (some (.ref C))
theorem clsAt_one {K : PySem.W.Frag} {n : Str} {C D : Addr} (a : clsAt K n C) (b : clsAt K n D) : C = D := by
  have z := a.symm.trans b
  cases z; rfl
/-- an exception at a: its class, its dict -/
def ExV (C : Addr) (d : Option Addr) (a : Addr) : HO := .ext fun h => ∃ (oe : Obj) (vs : Array Value), h.get? a = some oe ∧ Zc (.ref C) d oe ∧ oe.data = .fields vs
/-- the lambda at the end of a def's last return -/
def lamIn : List Stmt → Option (Arguments × Expr × Scope)
  | [.Return (some (.Call _ as _ _)) _] => match as.getLast? with
    | some (.Lambda p b s _) => some (p, b, s)
    | _ => none
  | _ :: r => lamIn r
  | [] => none
def lq (n : Str) : Str := (n ++ ".<locals>.") ++ "<lambda>"
/-- the text of n's lambda -/
def LamTx (K : PySem.W.Frag) (n : Str) (p : Arguments) (b : Expr) (s : Scope) : Prop := ∃ (fa : Addr) (oc : Value) (od : Option Addr) (fd : FuncData) (sl : Array (Option Value)) (ss : List Stmt),
  PySem.W.nsIn K mainGlobals n = some (some (.ref fa)) ∧ K.lookup fa = some ⟨oc, od, .func fd, sl⟩ ∧ fd.body = .stmts ss ∧ lamIn ss = some (p, b, s)
/-- a lambda's object, its code at c -/
def LamO (f : Addr) (q : Str) (p : Arguments) (b : Expr) (s : Scope) (c : Addr) : HO := .ext fun h => ∃ pm ctv, h.get? f = some (PySem.W.kla_obj "<lambda>" q p b s [] pm c ctv)
/-- how the lambdas of the code whose table stands at P are called -/
def lamQ1 (o : Obj) (P : Addr) : Option (Option Str) := match o.data with
  | .fields vs => match (vs[11]? : Option Value) with
    | some (.ref Q) => if Q = P then some (match (vs[1]? : Option Value) with | some (.str nm _) => some (lq nm) | _ => none) else none
    | _ => none
  | _ => none
def lamQ (K : PySem.W.Frag) (P : Addr) : Option Str := (K.findSome? fun p => lamQ1 p.2 P).join
/-- code and table of the def at fa, when it hands over a lambda -/
def lamTab1 (K : PySem.W.Frag) (fa : Addr) : Option (Addr × Addr) := match K.lookup fa with
  | some ⟨_, _, .func fd, _⟩ => match fd.body with
    | .stmts ss => match lamIn ss with
      | some _ => match fd.code with
        | .ref c => match K.lookup c with
          | some ⟨_, _, .fields vs, _⟩ => match (vs[11]? : Option Value) with
            | some (.ref P) => some (c, P)
            | _ => none
          | _ => none
        | _ => none
      | none => none
    | _ => none
  | _ => none
/-- the defs that hand over a lambda: name, place, code, table -/
def lamTabs (K : PySem.W.Frag) : List (Str × Addr × Addr × Addr) := match K.lookup mainGlobals with
  | some ⟨_, _, .dict es _, _⟩ => es.toList.filterMap fun e => match e.key, e.val with
    | .str n _, .ref fa => (lamTab1 K fa).map fun p => (n, fa, p.1, p.2)
    | _, _ => none
  | _ => []
def TupAt (_K : PySem.W.Frag) (w : Wd) (p : Addr) (xs : List V) : Prop := w.h p = none ∧ w.G p = some (.tup xs)
def LstAt (K : PySem.W.Frag) (w : Wd) (p : Addr) (xs : List V) : Prop := (w.h p = none ∧ w.G p = some (.lst xs)) ∨ SqL K (fun _ => none) p xs
mutual
inductive Rp (K : PySem.W.Frag) (w : Wd) : Dv → V → Prop
  | non : Rp K w .non .non
  | bl (b : Bool) : Rp K w (.bl b) (.bl b)
  | int (i : Int) : Rp K w (.int i) (.int i)
  | str (x : Str) : Rp K w (.str x) (.str x)
  | ty (n : String) : Rp K w (.ty n) (.ty n)
  | ref (a : Addr) : Rp K w (.ref a) (.ref a)
  | obj {n : Str} {a : Addr} : clsAt K n a → Rp K w (.obj n) (.ref a)
  | tup {p : Addr} {xs : List V} {ds : List Dv} : TupAt K w p xs → RpAll K w ds xs → Rp K w (.tup ds) (.ref p)
  | lst {p : Addr} {xs : List V} {ds : List Dv} : LstAt K w p xs → RpAll K w ds xs → Rp K w (.lst ds) (.ref p)
inductive RpAll (K : PySem.W.Frag) (w : Wd) : List Dv → List V → Prop
  | nil : RpAll K w [] []
  | cons {d : Dv} {v : V} {ds : List Dv} {vs : List V} : Rp K w d v → RpAll K w ds vs → RpAll K w (d :: ds) (v :: vs)
end
def RpF (K : PySem.W.Frag) (w : Wd) : List (Str × Dv) → List (Str × V) → Prop := Paired fun p q => p.1 = q.1 ∧ Rp K w p.2 q.2
def RpK {κ : Type} (K : PySem.W.Frag) (w : Wd) : List (κ × Dv) → List (κ × V) → Prop := Paired fun p q => p.1 = q.1 ∧ Rp K w p.2 q.2
def RpO (K : PySem.W.Frag) (w : Wd) (a : Addr) : Mo → Prop
  | .lst ds => ∃ xs, w.G a = some (.lst xs) ∧ RpAll K w ds xs
  | .ins n fs => ∃ C dx vs, clsAt K n C ∧ w.G a = some (.ins C dx vs) ∧ RpF K w fs vs
  | .exc n fs => ∃ C d, clsAt K n C ∧ w.G a = some (ExV C d a) ∧ ((d = none ∧ fs = []) ∨ ∃ dd vs, d = some dd ∧ w.h dd = none ∧ w.G dd = some (.xd vs) ∧ RpF K w fs vs)
  | .dK kvs => ∃ xs, w.G a = some (.dK xs) ∧ RpK K w kvs xs
  | .dT kvs => ∃ xs, w.G a = some (.dT xs) ∧ RpK K w kvs xs
  | .lkK kvs => ∃ xs, w.G a = some (.dK xs) ∧ RpK K w kvs xs ∧ ∃ o, w.H a = some (.frz o (.dK xs))
  | .lkT kvs => ∃ xs, w.G a = some (.dT xs) ∧ RpK K w kvs xs ∧ ∃ o, w.H a = some (.frz o (.dT xs))
  | .lam n => ∃ p b s c, LamTx K n p b s ∧ w.G a = some (LamO a (lq n) p b s c) ∧ w.h c = none ∧ w.G c = some (LamX.CodeO c (lq n))
theorem RpO.there {K : PySem.W.Frag} {w : Wd} {a : Addr} {m : Mo} (r : RpO K w a m) : ∃ u, w.G a = some u := by
  cases m with
  | lst ds => obtain ⟨_, z, _⟩ := r; exact ⟨_, z⟩
  | ins n fs => obtain ⟨_, _, _, _, z, _⟩ := r; exact ⟨_, z⟩
  | exc n fs => obtain ⟨_, _, _, z, _⟩ := r; exact ⟨_, z⟩
  | dK kvs => obtain ⟨_, z, _⟩ := r; exact ⟨_, z⟩
  | dT kvs => obtain ⟨_, z, _⟩ := r; exact ⟨_, z⟩
  | lkK kvs => obtain ⟨_, z, _⟩ := r; exact ⟨_, z⟩
  | lkT kvs => obtain ⟨_, z, _⟩ := r; exact ⟨_, z⟩
  | lam n => obtain ⟨_, _, _, _, _, z, _⟩ := r; exact ⟨_, z⟩
/-- what stands there is only read -/
def Still (h : Mh) (p : Addr) : Prop := match h p with
  | none => True
  | some (.lkK _) => True
  | some (.lkT _) => True
  | _ => False
theorem still_none {h : Mh} {p : Addr} (e : h p = none) : Still h p := by unfold Still; rw [e]; trivial
theorem still_of {h h' : Mh} {p : Addr} (s : Still h p) (e : h' p = h p) : Still h' p := by unfold Still; rw [e]; exact s
/-- the tables of code objects: nothing is told of them, what they hold is known -/
def TabI (K : PySem.W.Frag) (w : Wd) : Prop := ∀ P ps, w.H P = some (.tbl ps) → w.h P = none ∧ w.G P = none ∧ TriplesOk ps.toList ∧
  ∀ pos cv, codeAmong pos ps.toList = some cv → ∃ c q, cv = .ref c ∧ lamQ K P = some q ∧ w.h c = none ∧ w.G c = some (LamX.CodeO c q)
/-- .. and those of the defs that hand over lambdas are all known -/
def TabA (K : PySem.W.Frag) (w : Wd) : Prop := ∀ t ∈ lamTabs K, ∃ ps, w.H t.2.2.2 = some (.tbl ps)
structure Rel (K : PySem.W.Frag) (w : Wd) : Prop where
  sub : ∀ p u, w.G p = some u → w.H p = some u ∨ (Still w.h p ∧ (∀ xs, u ≠ .tup xs) ∧ ∃ o, w.H p = some (.frz o u))
  obj : ∀ a m, w.h a = some m → RpO K w a m
  tab : TabI K w
  all : TabA K w
/-- a dict that is being walked -/
def isLk : Mo → Prop
  | .lkK _ => True
  | .lkT _ => True
  | _ => False
structure Ext (w v : Wd) : Prop where
  fz : ∀ p u, w.h p = none → w.G p = some u → v.G p = some u ∧ v.h p = none
  junk : ∀ p u, w.G p = none → w.H p = some u → (∀ ps, u ≠ .tbl ps) → v.G p = none ∧ v.H p = some u
  lk : ∀ p m, w.h p = some m → isLk m → v.h p = some m ∧ v.G p = w.G p ∧ v.H p = w.H p
theorem Ext.refl (w : Wd) : Ext w w := ⟨fun _ _ a b => ⟨b, a⟩, fun _ _ a b _ => ⟨a, b⟩, fun _ _ a _ => ⟨a, rfl, rfl⟩⟩
theorem Ext.trans {w v u : Wd} (a : Ext w v) (b : Ext v u) : Ext w u :=
  ⟨fun p x h g => let ⟨g1, h1⟩ := a.fz p x h g; b.fz p x h1 g1, fun p x g h n => let ⟨g1, h1⟩ := a.junk p x g h n; b.junk p x g1 h1 n,
    fun p m h l => let ⟨h1, g1, H1⟩ := a.lk p m h l; let ⟨h2, g2, H2⟩ := b.lk p m h1 l; ⟨h2, g2.trans g1, H2.trans H1⟩⟩
/-- .. what is not told may change -/
structure Ex0 (w v : Wd) : Prop where
  fz : ∀ p u, w.h p = none → w.G p = some u → v.G p = some u ∧ v.h p = none
  lk : ∀ p m, w.h p = some m → isLk m → v.h p = some m ∧ v.G p = w.G p ∧ v.H p = w.H p
theorem Ext.w {w v : Wd} (e : Ext w v) : Ex0 w v := ⟨e.fz, e.lk⟩
theorem Ex0.trans {w v u : Wd} (a : Ex0 w v) (b : Ex0 v u) : Ex0 w u :=
  ⟨fun p x h g => let ⟨g1, h1⟩ := a.fz p x h g; b.fz p x h1 g1,
    fun p m h l => let ⟨h1, g1, H1⟩ := a.lk p m h l; let ⟨h2, g2, H2⟩ := b.lk p m h1 l; ⟨h2, g2.trans g1, H2.trans H1⟩⟩
section
variable {K : PySem.W.Frag} {w v : Wd}
/-- what is known and changes no more stays -/
def Fzs (w v : Wd) : Prop := ∀ p u, w.h p = none → w.G p = some u → v.G p = some u ∧ v.h p = none
theorem TupAt.ext {p : Addr} {xs : List V} (t : TupAt K w p xs) (e : Fzs w v) : TupAt K v p xs := let ⟨c, d⟩ := e p _ t.1 t.2; ⟨d, c⟩
theorem LstAt.ext {p : Addr} {xs : List V} (t : LstAt K w p xs) (e : Fzs w v) : LstAt K v p xs := t.elim (fun ⟨a, b⟩ => .inl (let ⟨c, d⟩ := e p _ a b; ⟨d, c⟩)) .inr
mutual
theorem Rp.fz (e : Fzs w v) : ∀ {d : Dv} {x : V}, Rp K w d x → Rp K v d x
  | _, _, .non => .non
  | _, _, .bl b => .bl b
  | _, _, .int i => .int i
  | _, _, .str x => .str x
  | _, _, .ty n => .ty n
  | _, _, .ref a => .ref a
  | _, _, .obj c => .obj c
  | _, _, .tup t r => .tup (t.ext e) (RpAll.fz e r)
  | _, _, .lst t r => .lst (t.ext e) (RpAll.fz e r)
theorem RpAll.fz (e : Fzs w v) : ∀ {ds : List Dv} {xs : List V}, RpAll K w ds xs → RpAll K v ds xs
  | _, _, .nil => .nil
  | _, _, .cons a b => .cons (Rp.fz e a) (RpAll.fz e b)
end
theorem Rp.ext {d : Dv} {x : V} (r : Rp K w d x) (e : Ext w v) : Rp K v d x := Rp.fz e.fz r
theorem RpAll.ext {ds : List Dv} {xs : List V} (r : RpAll K w ds xs) (e : Ext w v) : RpAll K v ds xs := RpAll.fz e.fz r
theorem RpF.ext (e : Ext w v) {fs : List (Str × Dv)} {vs : List (Str × V)} (r : RpF K w fs vs) : RpF K v fs vs := Paired.mapP r fun _ _ z => ⟨z.1, z.2.ext e⟩
theorem RpO.fz {a : Addr} {m : Mo} (e : Fzs w v) (g : ∀ u, w.G a = some u → v.G a = some u) (hl : isLk m → v.H a = w.H a) (r : RpO K w a m) : RpO K v a m := by
  cases m with
  | lst ds =>
    obtain ⟨xs, q1, q2⟩ := r
    exact ⟨xs, g _ q1, RpAll.fz e q2⟩
  | ins n fs =>
    obtain ⟨C, dx, vs, q0, q1, q2⟩ := r
    exact ⟨C, dx, vs, q0, g _ q1, Paired.mapP q2 fun _ _ z => ⟨z.1, Rp.fz e z.2⟩⟩
  | exc n fs =>
    obtain ⟨C, d, q0, q1, q2⟩ := r
    refine ⟨C, d, q0, g _ q1, ?_⟩
    rcases q2 with q2 | ⟨dd, vs, q2, q3, q4, q5⟩
    · exact .inl q2
    · obtain ⟨z1, z2⟩ := e dd _ q3 q4
      exact .inr ⟨dd, vs, q2, z2, z1, Paired.mapP q5 fun _ _ z => ⟨z.1, Rp.fz e z.2⟩⟩
  | dK kvs =>
    obtain ⟨xs, q1, q2⟩ := r
    exact ⟨xs, g _ q1, Paired.mapP q2 fun _ _ z => ⟨z.1, Rp.fz e z.2⟩⟩
  | dT kvs =>
    obtain ⟨xs, q1, q2⟩ := r
    exact ⟨xs, g _ q1, Paired.mapP q2 fun _ _ z => ⟨z.1, Rp.fz e z.2⟩⟩
  | lkK kvs =>
    obtain ⟨xs, q1, q2, o, q3⟩ := r
    exact ⟨xs, g _ q1, Paired.mapP q2 fun _ _ z => ⟨z.1, Rp.fz e z.2⟩, o, (hl trivial).trans q3⟩
  | lkT kvs =>
    obtain ⟨xs, q1, q2, o, q3⟩ := r
    exact ⟨xs, g _ q1, Paired.mapP q2 fun _ _ z => ⟨z.1, Rp.fz e z.2⟩, o, (hl trivial).trans q3⟩
  | lam n =>
    obtain ⟨p, b, s, c, q0, q1, q2, q3⟩ := r
    obtain ⟨z1, z2⟩ := e c _ q2 q3
    exact ⟨p, b, s, c, q0, g _ q1, z2, z1⟩
theorem RpAll.length : ∀ {ds : List Dv} {xs : List V}, RpAll K w ds xs → ds.length = xs.length
  | _, _, .nil => rfl
  | _, _, .cons _ b => congrArg (· + 1) (RpAll.length b)
theorem RpAll.get : ∀ {ds : List Dv} {xs : List V} {i : Nat} {x : V}, RpAll K w ds xs → xs[i]? = some x → ∃ d, ds[i]? = some d ∧ Rp K w d x
  | _, _, _, _, .nil, h => by simp at h
  | _, _, 0, _, .cons a _, h => by
    have q := Option.some.inj h
    subst q
    exact ⟨_, rfl, a⟩
  | _, _, i + 1, _, .cons _ b, h => RpAll.get (i := i) b h
theorem RpAll.get' : ∀ {ds : List Dv} {xs : List V} {i : Nat} {d : Dv}, RpAll K w ds xs → ds[i]? = some d → ∃ x, xs[i]? = some x ∧ Rp K w d x
  | _, _, _, _, .nil, h => by simp at h
  | _, _, 0, _, .cons a _, h => by
    have q := Option.some.inj h
    subst q
    exact ⟨_, rfl, a⟩
  | _, _, i + 1, _, .cons _ b, h => RpAll.get' (i := i) b h
theorem RpAll.append : ∀ {ds es : List Dv} {xs ys : List V}, RpAll K w ds xs → RpAll K w es ys → RpAll K w (ds ++ es) (xs ++ ys)
  | _, _, _, _, .nil, r => r
  | _, _, _, _, .cons a b, r => .cons a (RpAll.append b r)
theorem RpAll.take : ∀ {ds : List Dv} {xs : List V} (n : Nat), RpAll K w ds xs → RpAll K w (ds.take n) (xs.take n)
  | _, _, 0, _ => .nil
  | _, _, _ + 1, .nil => .nil
  | _, _, n + 1, .cons a b => .cons a (RpAll.take n b)
theorem RpAll.drop : ∀ {ds : List Dv} {xs : List V} (n : Nat), RpAll K w ds xs → RpAll K w (ds.drop n) (xs.drop n)
  | _, _, 0, r => r
  | _, _, _ + 1, .nil => .nil
  | _, _, n + 1, .cons _ b => RpAll.drop n b
theorem RpAll.set {d : Dv} {x : V} (r : Rp K w d x) : ∀ {ds : List Dv} {xs : List V} (i : Nat), RpAll K w ds xs → RpAll K w (ds.set i d) (xs.set i x)
  | _, _, _, .nil => .nil
  | _, _, 0, .cons _ b => .cons r b
  | _, _, i + 1, .cons a b => .cons a (RpAll.set r i b)
theorem Rel.hnone (r : Rel K w) {p : Addr} (e : w.H p = none) : w.G p = none ∧ w.h p = none := by
  have g : w.G p = none := by
    cases q : w.G p with
    | none => rfl
    | some u =>
      rcases r.sub p u q with z | ⟨_, _, o, z⟩ <;> (rw [e] at z; cases z)
  refine ⟨g, ?_⟩
  cases q : w.h p with
  | none => rfl
  | some m =>
    obtain ⟨_, z⟩ := (r.obj p m q).there
    rw [g] at z; cases z
theorem Rel.tupH (r : Rel K w) {p : Addr} {xs : List V} (t : TupAt K w p xs) : w.H p = some (.tup xs) := by
  rcases r.sub p _ t.2 with q | ⟨_, nt, _⟩
  · exact q
  · exact absurd rfl (nt xs)
theorem Rel.sqT (r : Rel K w) {p : Addr} {xs : List V} (t : TupAt K w p xs) : SqT K w.H p xs := .inl (.inl (r.tupH t))
theorem Rel.sqL (r : Rel K w) {p : Addr} {xs : List V} (t : LstAt K w p xs) : SqL K w.H p xs := by
  rcases t with ⟨a, b⟩ | (z | z)
  · rcases r.sub p _ b with q | ⟨_, _, o, q⟩
    · exact .inl (.inl q)
    · exact .inl (.inr ⟨o, q⟩)
  · rcases z with z | ⟨_, z⟩ <;> cases z
  · exact .inr z
theorem Rel.there (r : Rel K w) {p : Addr} {m : Mo} (e : w.h p = some m) : ∃ u, w.H p = some u := by
  obtain ⟨u, g⟩ := (r.obj p m e).there
  rcases r.sub p u g with z | ⟨_, _, o, z⟩
  · exact ⟨_, z⟩
  · exact ⟨_, z⟩
/-- what may change, as it is tracked -/
theorem Rel.mlst (r : Rel K w) {a : Addr} {ds : List Dv} (e : w.h a = some (.lst ds)) : ∃ xs, w.G a = some (.lst xs) ∧ w.H a = some (.lst xs) ∧ RpAll K w ds xs := by
  obtain ⟨xs, g, q⟩ := r.obj a _ e
  rcases r.sub a _ g with z | ⟨z, _⟩
  · exact ⟨xs, g, z, q⟩
  · unfold Still at z; rw [e] at z; exact z.elim
theorem Rel.mdK (r : Rel K w) {a : Addr} {kvs : List (Key × Dv)} (e : w.h a = some (.dK kvs)) : ∃ xs, w.G a = some (.dK xs) ∧ w.H a = some (.dK xs) ∧ RpK K w kvs xs := by
  obtain ⟨xs, g, q⟩ := r.obj a _ e
  rcases r.sub a _ g with z | ⟨z, _⟩
  · exact ⟨xs, g, z, q⟩
  · unfold Still at z; rw [e] at z; exact z.elim
theorem Rel.mdT (r : Rel K w) {a : Addr} {kvs : List (List Key × Dv)} (e : w.h a = some (.dT kvs)) : ∃ xs, w.G a = some (.dT xs) ∧ w.H a = some (.dT xs) ∧ RpK K w kvs xs := by
  obtain ⟨xs, g, q⟩ := r.obj a _ e
  rcases r.sub a _ g with z | ⟨z, _⟩
  · exact ⟨xs, g, z, q⟩
  · unfold Still at z; rw [e] at z; exact z.elim
theorem Rel.mins (r : Rel K w) {a : Addr} {n : Str} {fs : List (Str × Dv)} (e : w.h a = some (.ins n fs)) : ∃ C dx vs, clsAt K n C ∧ w.G a = some (.ins C dx vs) ∧ w.H a = some (.ins C dx vs) ∧ RpF K w fs vs := by
  obtain ⟨C, dx, vs, c, g, q⟩ := r.obj a _ e
  rcases r.sub a _ g with z | ⟨z, _⟩
  · exact ⟨C, dx, vs, c, g, z, q⟩
  · unfold Still at z; rw [e] at z; exact z.elim
theorem Rel.mexc (r : Rel K w) {a : Addr} {n : Str} {fs : List (Str × Dv)} (e : w.h a = some (.exc n fs)) : ∃ C d, clsAt K n C ∧ w.H a = some (ExV C d a) ∧ ((d = none ∧ fs = []) ∨ ∃ dd vs, d = some dd ∧ w.h dd = none ∧ w.G dd = some (.xd vs) ∧ RpF K w fs vs) := by
  obtain ⟨C, d, c, g, q⟩ := r.obj a _ e
  rcases r.sub a _ g with z | ⟨z, _⟩
  · exact ⟨C, d, c, z, q⟩
  · unfold Still at z; rw [e] at z; exact z.elim
/-- the tables stand over a change at p -/
theorem TabI.at {h' : Mh} {G' : Hp} (t : TabI K w) {p : Addr} {u : HO} (hu : ∀ ps, u ≠ .tbl ps) (gp : ∀ x, w.h p = none → w.G p = some x → False) (hh : ∀ q, q ≠ p → h' q = w.h q) (hG : ∀ q, q ≠ p → G' q = w.G q) : TabI K ⟨h', G', upd w.H p u⟩ := by
  intro P ps e
  have e : upd w.H p u P = some (.tbl ps) := e
  have n : P ≠ p := fun z => by
    rw [z, upd_same] at e
    exact hu ps (Option.some.inj e)
  rw [upd_ne n] at e
  obtain ⟨a, b, c, d⟩ := t P ps e
  refine ⟨(hh P n).trans a, (hG P n).trans b, c, fun pos cv hc => ?_⟩
  obtain ⟨c1, q, e1, e2, e3, e4⟩ := d pos cv hc
  have nc : c1 ≠ p := fun z => gp _ (by rw [← z]; exact e3) (by rw [← z]; exact e4)
  exact ⟨c1, q, e1, e2, (hh c1 nc).trans e3, (hG c1 nc).trans e4⟩
theorem TabA.at {h' : Mh} {G' : Hp} (t : TabA K w) {p : Addr} {u : HO} (np : ∀ ps, w.H p ≠ some (.tbl ps)) : TabA K ⟨h', G', upd w.H p u⟩ := fun x hx => by
  obtain ⟨ps, e⟩ := t x hx
  refine ⟨ps, ?_⟩
  show upd w.H p u _ = _
  rw [upd_ne (fun z => np ps (by rw [← z]; exact e))]
  exact e
theorem TabI.same {h' : Mh} {G' : Hp} (t : TabI K w) (hh : ∀ q, w.h q = none → h' q = none) (hG : ∀ q, w.h q = none → w.G q = none → (∃ ps, w.H q = some (.tbl ps)) → G' q = none) (hG2 : ∀ q u, w.h q = none → w.G q = some u → G' q = some u) : TabI K ⟨h', G', w.H⟩ := by
  intro P ps e
  obtain ⟨a, b, c, d⟩ := t P ps e
  refine ⟨hh P a, hG P a b ⟨ps, e⟩, c, fun pos cv hc => ?_⟩
  obtain ⟨c1, q, e1, e2, e3, e4⟩ := d pos cv hc
  exact ⟨c1, q, e1, e2, hh c1 e3, hG2 c1 _ e3 e4⟩
theorem TabI.on {h' : Mh} {G' : Hp} (t : TabI K w) {p : Addr} {u : HO} (e : w.H p = some u) (hu : ∀ ps, u ≠ .tbl ps) (gp : ∀ x, w.h p = none → w.G p = some x → False) (hh : ∀ q, q ≠ p → h' q = w.h q) (hG : ∀ q, q ≠ p → G' q = w.G q) : TabI K ⟨h', G', w.H⟩ := by
  have q := t.at (h' := h') (G' := G') hu gp hh hG
  have z : upd w.H p u = w.H := funext fun x => by
    by_cases n : x = p
    · rw [n, upd_same, e]
    · exact upd_ne n
  rw [z] at q
  exact q
/-- a new thing that never changes -/
theorem Rel.newF (r : Rel K w) {p : Addr} (e : w.H p = none) (u : HO) (hu : ∀ ps, u ≠ .tbl ps := by intro _ z; cases z) : Rel K ⟨w.h, upd w.G p u, upd w.H p u⟩ ∧ Ext w ⟨w.h, upd w.G p u, upd w.H p u⟩ := by
  obtain ⟨g, m⟩ := r.hnone e
  have ex : Ext w ⟨w.h, upd w.G p u, upd w.H p u⟩ := by
    refine ⟨fun q x h1 h2 => ?_, fun q x h1 h2 => ?_, fun q m' h1 _ => ?_⟩
    · have n : q ≠ p := fun z => by rw [z, g] at h2; cases h2
      exact ⟨by show upd w.G p u q = _; rw [upd_ne n]; exact h2, h1⟩
    · have n : q ≠ p := fun z => by rw [z, e] at h2; cases h2
      exact fun _ => ⟨by show upd w.G p u q = _; rw [upd_ne n]; exact h1, by show upd w.H p u q = _; rw [upd_ne n]; exact h2⟩
    · have n : q ≠ p := fun z => by rw [z, m] at h1; cases h1
      exact ⟨h1, upd_ne n, upd_ne n⟩
  refine ⟨⟨fun q x h => ?_, fun a o h => ?_, r.tab.at hu (fun x _ z => by rw [g] at z; cases z) (fun _ _ => rfl) (fun q n => upd_ne n), r.all.at fun ps z => by rw [e] at z; cases z⟩, ex⟩
  · have h : upd w.G p u q = some x := h
    by_cases n : q = p
    · subst n
      rw [upd_same] at h
      exact .inl (by show upd w.H q u q = _; rw [upd_same]; exact h)
    · rw [upd_ne n] at h
      rcases r.sub q x h with z | ⟨z1, nt, o, z⟩
      · exact .inl (by show upd w.H p u q = _; rw [upd_ne n]; exact z)
      · exact .inr ⟨z1, nt, o, by show upd w.H p u q = _; rw [upd_ne n]; exact z⟩
  · have n : a ≠ p := fun z => by
      have h : w.h a = some o := h
      rw [z, m] at h; cases h
    exact RpO.fz ex.fz (fun x z => by show upd w.G p u a = _; rw [upd_ne n]; exact z) (fun _ => upd_ne n) (r.obj a o h)
/-- a thing that may change is put: it is new, or it may change already -/
theorem Rel.put (r : Rel K w) {p : Addr} (e : w.H p = none ∨ ∃ m, w.h p = some m ∧ ¬ isLk m) {u : HO} {m : Mo} (hm : ∀ v : Wd, Ext w v → v.G p = some u → RpO K v p m) (hu : ∀ ps, u ≠ .tbl ps := by intro _ z; cases z) :
    Rel K ⟨mput w.h p m, upd w.G p u, upd w.H p u⟩ ∧ Ext w ⟨mput w.h p m, upd w.G p u, upd w.H p u⟩ := by
  have gp : ∀ x, w.h p = none → w.G p = some x → False := fun x h g => by
    rcases e with e | ⟨m, e, _⟩
    · rw [(r.hnone e).1] at g; cases g
    · rw [e] at h; cases h
  have jp : ∀ x, w.G p = none → w.H p = some x → False := fun x g h => by
    rcases e with e | ⟨m, e, _⟩
    · rw [e] at h; cases h
    · obtain ⟨_, z⟩ := (r.obj p m e).there
      rw [g] at z; cases z
  have ex : Ext w ⟨mput w.h p m, upd w.G p u, upd w.H p u⟩ := by
    refine ⟨fun q x h1 h2 => ?_, fun q x h1 h2 => ?_, fun q m' h1 l => ?_⟩
    · have n : q ≠ p := fun z => gp x (by rw [← z]; exact h1) (by rw [← z]; exact h2)
      exact ⟨by show upd w.G p u q = _; rw [upd_ne n]; exact h2, by show mput w.h p m q = _; rw [mput_ne n]; exact h1⟩
    · have n : q ≠ p := fun z => jp x (by rw [← z]; exact h1) (by rw [← z]; exact h2)
      exact fun _ => ⟨by show upd w.G p u q = _; rw [upd_ne n]; exact h1, by show upd w.H p u q = _; rw [upd_ne n]; exact h2⟩
    · have n : q ≠ p := fun z => by
        rcases e with e | ⟨m2, e, nl⟩
        · have := (r.hnone e).2
          rw [z, this] at h1; cases h1
        · rw [z, e] at h1
          cases h1
          exact nl l
      exact ⟨by show mput w.h p m q = _; rw [mput_ne n]; exact h1, upd_ne n, upd_ne n⟩
  refine ⟨⟨fun q x h => ?_, fun a o h => ?_, r.tab.at hu gp (fun q n => mput_ne n) (fun q n => upd_ne n), r.all.at fun ps z => by
    rcases e with e | ⟨m, e, _⟩
    · rw [e] at z; cases z
    · have := (r.tab _ _ z).1
      rw [e] at this; cases this⟩, ex⟩
  · have h : upd w.G p u q = some x := h
    by_cases n : q = p
    · subst n
      rw [upd_same] at h
      exact .inl (by show upd w.H q u q = _; rw [upd_same]; exact h)
    · rw [upd_ne n] at h
      rcases r.sub q x h with z | ⟨z1, nt, o, z⟩
      · exact .inl (by show upd w.H p u q = _; rw [upd_ne n]; exact z)
      · exact .inr ⟨still_of z1 (mput_ne n), nt, o, by show upd w.H p u q = _; rw [upd_ne n]; exact z⟩
  · have h : mput w.h p m a = some o := h
    by_cases n : a = p
    · subst n
      rw [mput_same] at h
      cases h
      exact hm _ ex (by show upd w.G a u a = _; rw [upd_same])
    · rw [mput_ne n] at h
      exact RpO.fz ex.fz (fun x z => by show upd w.G p u a = _; rw [upd_ne n]; exact z) (fun _ => upd_ne n) (r.obj a o h)
/-- a thing changes no more -/
theorem Rel.del (r : Rel K w) (a : Addr) (nl : ∀ m, w.h a = some m → ¬ isLk m) : Rel K ⟨mdel w.h a, w.G, w.H⟩ ∧ Ext w ⟨mdel w.h a, w.G, w.H⟩ := by
  have ex : Ext w ⟨mdel w.h a, w.G, w.H⟩ := by
    refine ⟨fun q x h1 h2 => ⟨h2, ?_⟩, fun q x h1 h2 _ => ⟨h1, h2⟩, fun q m h1 l => ⟨?_, rfl, rfl⟩⟩
    · show mdel w.h a q = none
      by_cases n : q = a
      · rw [n, mdel_same]
      · rw [mdel_ne n]; exact h1
    · show mdel w.h a q = some m
      have n : q ≠ a := fun z => nl m (by rw [← z]; exact h1) l
      rw [mdel_ne n]; exact h1
  refine ⟨⟨fun q x h => ?_, fun b o h => ?_, r.tab.same (fun q z => by
      show mdel w.h a q = none
      by_cases n : q = a
      · rw [n, mdel_same]
      · rw [mdel_ne n]; exact z) (fun _ _ z _ => z) (fun _ _ _ z => z), r.all⟩, ex⟩
  · rcases r.sub q x h with z | ⟨z1, nt, o, z⟩
    · exact .inl z
    · refine .inr ⟨?_, nt, o, z⟩
      by_cases n : q = a
      · exact still_none (by show mdel w.h a q = none; rw [n, mdel_same])
      · exact still_of z1 (mdel_ne n)
  · have h : mdel w.h a b = some o := h
    by_cases n : b = a
    · rw [n, mdel_same] at h; cases h
    · rw [mdel_ne n] at h
      exact RpO.fz ex.fz (fun _ z => z) (fun _ => rfl) (r.obj b o h)
end

/-! ### slots -/
abbrev Sl := List (Option Dv)
@[simp] def slot (ρ : Sl) (i : Nat) : Option Dv := match ρ, i with
  | [], _ => none
  | d :: _, 0 => d
  | _ :: r, i + 1 => slot r i
theorem slot_get : ∀ {ρ : Sl} {i : Nat} {d : Dv}, slot ρ i = some d → ρ[i]? = some (some d)
  | [], _, _, h => by cases h
  | _ :: _, 0, _, h => congrArg some h
  | _ :: r, i + 1, d, h => slot_get (ρ := r) (i := i) h
structure Good (K : PySem.W.Frag) (ρ : Sl) (w : Wd) (σ : St) : Prop where
  rel : Rel K w
  len : ρ.length = σ.length
  at_ : ∀ (i : Nat) (d : Dv), ρ[i]? = some (some d) → ∃ v, σ[i]? = some (some v) ∧ Rp K w d v
section
variable {K : PySem.W.Frag} {ρ : Sl} {w v : Wd} {σ : St}
theorem Good.ext (g : Good K ρ w σ) (r : Rel K v) (e : Ext w v) : Good K ρ v σ := ⟨r, g.len, fun i d h => let ⟨x, a, b⟩ := g.at_ i d h; ⟨x, a, b.ext e⟩⟩
theorem Good.set (g : Good K ρ w σ) {d : Dv} {x : V} (r : Rp K w d x) (i : Nat) : Good K (ρ.set i (some d)) w (σ.set i (some x)) := by
  refine ⟨g.rel, by rw [List.length_set, List.length_set]; exact g.len, fun j e h => ?_⟩
  by_cases n : i = j
  · subst n
    have hl : i < ρ.length := by
      have := (List.getElem?_eq_some_iff.mp h).1
      rwa [List.length_set] at this
    rw [List.getElem?_set_self hl] at h
    cases h
    exact ⟨x, by rw [List.getElem?_set_self (by rw [← g.len]; exact hl)], r⟩
  · rw [List.getElem?_set_ne n] at h
    obtain ⟨y, a, b⟩ := g.at_ j e h
    exact ⟨y, by rw [List.getElem?_set_ne n]; exact a, b⟩
end

/-! ### the readings over trees, and how they stand for the hand layer's -/
abbrev Kd := Dv → Mh → Prop
abbrev GE := Sl → Mh → Kd → Prop
abbrev GT := Sl → Mh → (Bool → Mh → Prop) → Prop
abbrev GA := Sl → Mh → (List Dv → Mh → Prop) → Prop
/-- behind an exception: its class, its fields -/
abbrev Kx := Str → List (Str × Dv) → Mh → Prop
structure En where
  nx : Sl → Mh → Prop
  rt : Kd
  bk : Sl → Mh → Prop := fun _ _ => False
  ct : Sl → Mh → Prop := fun _ _ => False
  xc : Kx := fun _ _ _ => False
abbrev GS := En → Sl → Mh → Prop
def Out (K : PySem.W.Frag) (w : Wd) (Q3 : Kd) (Q : VK) : Prop := ∀ d w' v, Q3 d w'.h → Rel K w' → Ext w w' → Rp K w' d v → Q v w'.H
theorem Out.ext {K : PySem.W.Frag} {w w1 : Wd} {Q3 : Kd} {Q : VK} (o : Out K w Q3 Q) (e : Ext w w1) : Out K w1 Q3 Q := fun d w' v a b c f => o d w' v a b (e.trans c) f
theorem Out.go {K : PySem.W.Frag} {w w' : Wd} {Q3 : Kd} {Q : VK} {d : Dv} {v : V} (o : Out K w Q3 Q) (r : Rel K w') (e : Ext w w') (p : Rp K w' d v) (q : Q3 d w'.h) : Q v w'.H := o d w' v q r e p
def OutT (K : PySem.W.Frag) (w : Wd) (Q3 : Bool → Mh → Prop) (Q : Bool → Hp → Prop) : Prop := ∀ b w', Q3 b w'.h → Rel K w' → Ext w w' → Q b w'.H
theorem OutT.ext {K : PySem.W.Frag} {w w1 : Wd} {Q3 : Bool → Mh → Prop} {Q : Bool → Hp → Prop} (o : OutT K w Q3 Q) (e : Ext w w1) : OutT K w1 Q3 Q := fun d w' a b c => o d w' a b (e.trans c)
def OutA (K : PySem.W.Frag) (w : Wd) (Q3 : List Dv → Mh → Prop) (Q : List V → Hp → Prop) : Prop := ∀ ds w' vs, Q3 ds w'.h → Rel K w' → Ext w w' → RpAll K w' ds vs → Q vs w'.H
structure OutS (K : PySem.W.Frag) (w : Wd) (E : En) (D : Ends) : Prop where
  nx : ∀ ρ w' σ, E.nx ρ w'.h → Good K ρ w' σ → Ext w w' → D.nx σ w'.H
  rt : Out K w E.rt D.rt
  bk : ∀ ρ w' σ, E.bk ρ w'.h → Good K ρ w' σ → Ext w w' → D.bk σ w'.H
  ct : ∀ ρ w' σ, E.ct ρ w'.h → Good K ρ w' σ → Ext w w' → D.ct σ w'.H
theorem OutS.ext {K : PySem.W.Frag} {w w1 : Wd} {E : En} {D : Ends} (o : OutS K w E D) (e : Ext w w1) : OutS K w1 E D :=
  ⟨fun ρ w' σ a b c => o.nx ρ w' σ a b (e.trans c), o.rt.ext e, fun ρ w' σ a b c => o.bk ρ w' σ a b (e.trans c), fun ρ w' σ a b c => o.ct ρ w' σ a b (e.trans c)⟩
def lo (K : PySem.W.Frag) (g : GE) : TE := fun σ H Q => ∃ ρ w Q3, w.H = H ∧ Good K ρ w σ ∧ g ρ w.h Q3 ∧ Out K w Q3 Q
def loT (K : PySem.W.Frag) (g : GT) : TT := fun σ H Q => ∃ ρ w Q3, w.H = H ∧ Good K ρ w σ ∧ g ρ w.h Q3 ∧ OutT K w Q3 Q
def loA (K : PySem.W.Frag) (g : GA) : TA := fun σ H Q => ∃ ρ w Q3, w.H = H ∧ Good K ρ w σ ∧ g ρ w.h Q3 ∧ OutA K w Q3 Q
def loS (K : PySem.W.Frag) (g : GS) : TS := fun D σ H => ∃ ρ w E, w.H = H ∧ Good K ρ w σ ∧ g E ρ w.h ∧ OutS K w E D
/-- by values -/
abbrev D2 := Dv → Dv → Mh → Kd → Prop
def lo2 (K : PySem.W.Frag) (r : D2) : R2 := fun x y H Q => ∃ a b w Q3, w.H = H ∧ Rel K w ∧ Rp K w a x ∧ Rp K w b y ∧ r a b w.h Q3 ∧ Out K w Q3 Q
def lo1 (K : PySem.W.Frag) (r : Dv → Mh → Kd → Prop) : V → Hp → VK → Prop := fun x H Q => ∃ a w Q3, w.H = H ∧ Rel K w ∧ Rp K w a x ∧ r a w.h Q3 ∧ Out K w Q3 Q
abbrev DC := List Dv → Mh → Kd → Prop
def loC (K : PySem.W.Frag) (r : DC) : List V → Hp → VK → Prop := fun xs H Q => ∃ ds w Q3, w.H = H ∧ Rel K w ∧ RpAll K w ds xs ∧ r ds w.h Q3 ∧ Out K w Q3 Q
abbrev DM := Dv → List Dv → Mh → Kd → Prop
def loM (K : PySem.W.Frag) (r : DM) : V → List V → Hp → VK → Prop := fun x xs H Q => ∃ d ds w Q3, w.H = H ∧ Rel K w ∧ Rp K w d x ∧ RpAll K w ds xs ∧ r d ds w.h Q3 ∧ Out K w Q3 Q

def E3 (X : Cx) (e : Expr) (g : GE) : Prop := PE X e (lo X.K g)
def T3 (X : Cx) (e : Expr) (g : GT) : Prop := PT X e (loT X.K g)
def W3 (X : Cx) (e : Expr) (g : GT) : Prop := PW X e (loT X.K g)
def A3 (X : Cx) (es : List Expr) (g : GA) : Prop := PA X es (loA X.K g)
def S3 (X : Cx) (st : Stmt) (g : GS) : Prop := PS X st (loS X.K g)
def B3 (X : Cx) (st : List Stmt) (g : GS) : Prop := PSs X st (loS X.K g)
section
variable {X : Cx}
theorem PEimp {e : Expr} {t t' : TE} (h : PE X e t) (i : ∀ σ H Q, t' σ H Q → t σ H Q) : PE X e t' := ⟨fun pins s σ H Q I q => h.run pins s σ H Q I (i _ _ _ q)⟩
theorem PTimp {e : Expr} {t t' : TT} (h : PT X e t) (i : ∀ σ H Q, t' σ H Q → t σ H Q) : PT X e t' := ⟨fun pins s σ H Q I q => h.run pins s σ H Q I (i _ _ _ q)⟩
theorem PWimp {e : Expr} {t t' : TT} (h : PW X e t) (i : ∀ σ H Q, t' σ H Q → t σ H Q) : PW X e t' := ⟨fun wh pins s σ H Q I q => h.run wh pins s σ H Q I (i _ _ _ q)⟩
theorem PAimp {e : List Expr} {t t' : TA} (h : PA X e t) (i : ∀ σ H Q, t' σ H Q → t σ H Q) : PA X e t' := ⟨fun ps pins s σ H Q I q => h.run ps pins s σ H Q I (i _ _ _ q)⟩
theorem PSimp {e : Stmt} {t t' : TS} (h : PS X e t) (i : ∀ D σ H, t' D σ H → t D σ H) : PS X e t' := ⟨fun pins s σ H D I q => h.run pins s σ H D I (i _ _ _ q)⟩
theorem PSsimp {e : List Stmt} {t t' : TS} (h : PSs X e t) (i : ∀ D σ H, t' D σ H → t D σ H) : PSs X e t' := ⟨fun pins s σ H D I q => h.run pins s σ H D I (i _ _ _ q)⟩
end

/-! ### names, constants -/
section
variable {X : Cx} {pos : Pos}
@[simp] def gVar (i : Nat) : GE := fun ρ h Q => ∃ d, slot ρ i = some d ∧ Q d h
@[simp] def gC (d : Dv) : GE := fun _ h Q => Q d h
theorem e_var (i : Nat) {x : Str} (hN : X.N[i]? = some x := by rfl) (hv : Vis X.env.scope x := by first | exact Or.inl rfl | exact Or.inr (Or.inl rfl) | exact Or.inr (Or.inr rfl)) (hd : (x == ("__debug__" : Str)) = false := by decide) (hcd : (x == ("__classdict__" : Str)) = false := by decide) :
    E3 X (.Name x pos) (gVar i) := PEimp (pe_var hN hv hd hcd) fun σ H Q ⟨ρ, w, Q3, e, gd, ⟨d, hs, q⟩, out⟩ => by
  subst e
  obtain ⟨v, h1, h2⟩ := gd.at_ i d (slot_get hs)
  exact ⟨v, h1, out d w v q gd.rel (Ext.refl w) h2⟩
theorem e_con {e : Expr} {d : Dv} {v : V} (h : PE X e (tC v)) (r : ∀ w, Rp X.K w d v) : E3 X e (gC d) := PEimp h fun σ H Q ⟨ρ, w, Q3, e, gd, q, out⟩ => by
  subst e
  exact out d w v q gd.rel (Ext.refl w) (r w)
theorem e_int {i : Int} {j} : E3 X (.Constant (.int i) j pos) (gC (.int i)) := e_con pe_int fun _ => .int i
theorem e_bl {b : Bool} {j} : E3 X (.Constant (.bool b) j pos) (gC (.bl b)) := e_con pe_bl fun _ => .bl b
theorem e_non {j} : E3 X (.Constant .none j pos) (gC .non) := e_con pe_non fun _ => .non
theorem e_str {x : Str} {j} : E3 X (.Constant (.str x) j pos) (gC (.str x)) := e_con pe_str fun _ => .str x
/-- a module's constant -/
theorem e_gStr {x : Str} {z : Str} {t : Tok} (hg : Gl X x) (hm : X.mg x = some (.str z t)) (hd : (x == ("__debug__" : Str)) = false := by decide) : E3 X (.Name x pos) (gC (.str z)) := e_con (pe_glob (v := .str z) hg hm ⟨t, rfl⟩ hd) fun _ => .str z
theorem e_gInt {x : Str} {z : Int} {t : Tok} (hg : Gl X x) (hm : X.mg x = some (.int z t)) (hd : (x == ("__debug__" : Str)) = false := by decide) : E3 X (.Name x pos) (gC (.int z)) := e_con (pe_glob (v := .int z) hg hm ⟨t, rfl⟩ hd) fun _ => .int z
theorem e_gObj {x : Str} {a : Addr} (hg : Gl X x) (hm : X.mg x = some (.ref a)) (hc : clsAt X.K x a) (hd : (x == ("__debug__" : Str)) = false := by decide) : E3 X (.Name x pos) (gC (.obj x)) := e_con (pe_glob (v := .ref a) hg hm rfl hd) fun _ => .obj hc
theorem e_gTy {x : Str} {n : String} (hg : Gl X x) (hm : X.mg x = none) (hv : bootBuiltins x = some (.type n)) (hn : x ≠ "__name__" := by decide) (hd : (x == ("__debug__" : Str)) = false := by decide) : E3 X (.Name x pos) (gC (.ty n)) := e_con (pe_bltn (v := .ty n) hg hm hv rfl hn hd) fun _ => .ty n

/-! ### operators, comparisons, tests -/
variable {a b c : Expr} {ga gb gc : GE}
@[simp] def gOp (r : D2) (ga gb : GE) : GE := fun ρ h Q => ga ρ h fun x h1 => gb ρ h1 fun y h2 => r x y h2 Q
@[simp] def gUn (r : Dv → Mh → Kd → Prop) (ga : GE) : GE := fun ρ h Q => ga ρ h fun x h1 => r x h1 Q
theorem lo_op {K : PySem.W.Frag} {r : D2} {σ : St} {H : Hp} {Q : VK} (h : lo K (gOp r ga gb) σ H Q) : tOp (lo2 K r) (lo K ga) (lo K gb) σ H Q := by
  obtain ⟨ρ, w, Q3, e, gd, q, out⟩ := h
  subst e
  exact ⟨ρ, w, _, rfl, gd, q, fun d1 w1 v1 q1 r1 e1 p1 => ⟨ρ, w1, _, rfl, gd.ext r1 e1, q1, fun d2 w2 v2 q2 r2 e2 p2 => ⟨d1, d2, w2, Q3, rfl, r2, p1.ext e2, p2, q2, out.ext (e1.trans e2)⟩⟩⟩
theorem e_op {op : Operator} {r : D2} (ho : OpR X (binaryOp op) (lo2 X.K r)) (ha : E3 X a ga) (hb : E3 X b gb) : E3 X (.BinOp a op b pos) (gOp r ga gb) := PEimp (pe_op ho ha hb) fun _ _ _ h => lo_op h
theorem e_cmp {op : CmpOp} {r : D2} (ho : OpR X (compareOp op) (lo2 X.K r)) (ha : E3 X a ga) (hb : E3 X b gb) (hm : behindInMarks op b = false) : E3 X (.Compare a [op] [b] pos) (gOp r ga gb) := PEimp (pe_cmpR ho ha hb hm) fun _ _ _ h => lo_op h
@[simp] def gTest (g : GE) : GT := fun ρ h Q => g ρ h fun d h1 => ∃ k, d = .bl k ∧ Q k h1
theorem lo_test {K : PySem.W.Frag} {g : GE} {t : TE} (i : ∀ σ H Q, lo K g σ H Q → t σ H Q) {σ : St} {H : Hp} {Q : Bool → Hp → Prop} (h : loT K (gTest g) σ H Q) : t σ H fun x H' => ∃ k, x = .bl k ∧ Q k H' := by
  obtain ⟨ρ, w, Q3, e, gd, q, out⟩ := h
  subst e
  refine i _ _ _ ⟨ρ, w, _, rfl, gd, q, fun d w' v ⟨k, e, q'⟩ r e1 p => ?_⟩
  subst e
  cases p
  exact ⟨k, rfl, out k w' q' r e1⟩
theorem t_cmp {op : CmpOp} {r : D2} (ho : OpR X (compareOp op) (lo2 X.K r)) (ha : E3 X a ga) (hb : E3 X b gb) (hm : behindInMarks op b = false) : T3 X (.Compare a [op] [b] pos) (gTest (gOp r ga gb)) := PTimp (pt_cmpR ho ha hb hm) fun _ _ _ h => lo_test (fun _ _ _ => lo_op) h
@[simp] def gChain (r r' : D2) (ga gb gc : GE) : GE := fun ρ h Q => ga ρ h fun x h1 => gb ρ h1 fun y h2 => r x y h2 fun z h3 => ∃ k, z = .bl k ∧ if k = true then gc ρ h3 fun u h4 => r' y u h4 Q else Q (.bl false) h3
theorem lo_chain {K : PySem.W.Frag} {r r' : D2} {σ : St} {H : Hp} {Q : VK} (h : lo K (gChain r r' ga gb gc) σ H Q) : tChain (lo2 K r) (lo2 K r') (lo K ga) (lo K gb) (lo K gc) σ H Q := by
  obtain ⟨ρ, w, Q3, e, gd, q, out⟩ := h
  subst e
  refine ⟨ρ, w, _, rfl, gd, q, fun d1 w1 v1 q1 r1 e1 p1 => ⟨ρ, w1, _, rfl, gd.ext r1 e1, q1, fun d2 w2 v2 q2 r2 e2 p2 => ⟨d1, d2, w2, _, rfl, r2, p1.ext e2, p2, q2, fun d3 w3 v3 ⟨k, e, q3⟩ r3 e3 p3 => ?_⟩⟩⟩
  subst e
  cases p3
  refine ⟨k, rfl, ?_⟩
  cases k with
  | false =>
    rw [if_neg Bool.false_ne_true] at q3 ⊢
    exact out (.bl false) w3 _ q3 r3 ((e1.trans e2).trans e3) (.bl false)
  | true =>
    rw [if_pos rfl] at q3 ⊢
    exact ⟨ρ, w3, _, rfl, (gd.ext r1 e1).ext r3 (e2.trans e3), q3, fun d4 w4 v4 q4 r4 e4 p4 => ⟨d2, d4, w4, Q3, rfl, r4, p2.ext (e3.trans e4), p4, q4, out.ext (((e1.trans e2).trans e3).trans e4)⟩⟩
theorem e_chain {op op' : CmpOp} {r r' : D2} (ho : OpR X (compareOp op) (lo2 X.K r)) (ho' : OpR X (compareOp op') (lo2 X.K r')) (ha : E3 X a ga) (hb : E3 X b gb) (hc : E3 X c gc) (hm : lastMarks [op, op'] [b, c] = false := by with_unfolding_all rfl) :
    E3 X (.Compare a [op, op'] [b, c] pos) (gChain r r' ga gb gc) := PEimp (pe_chain ho ho' ha hb hc hm) fun _ _ _ h => lo_chain h
theorem t_chain {op op' : CmpOp} {r r' : D2} (ho : OpR X (compareOp op) (lo2 X.K r)) (ho' : OpR X (compareOp op') (lo2 X.K r')) (ha : E3 X a ga) (hb : E3 X b gb) (hc : E3 X c gc) (hm : lastMarks [op, op'] [b, c] = false := by with_unfolding_all rfl) :
    T3 X (.Compare a [op, op'] [b, c] pos) (gTest (gChain r r' ga gb gc)) := PTimp (pt_chain ho ho' ha hb hc hm) fun _ _ _ h => lo_test (fun _ _ _ => lo_chain) h
/-- an expression that gives True or False, as a test -/
theorem t_val (ha : E3 X a ga) (he : ∀ whole, isTrue a X.env whole = (do let v ← whole; standAt a.pos; holding [v] (truthy v)) := by intro _; rfl) : T3 X a (gTest ga) := PTimp (pt_val ha he) fun _ _ _ h => lo_test (fun _ _ _ z => z) h
theorem t_and1 {g : GT} (ha : T3 X a g) : W3 X (.BoolOp .And [a] pos) g := pw_and1 ha
theorem t_or1 {g : GT} (ha : T3 X a g) : W3 X (.BoolOp .Or [a] pos) g := pw_or1 ha
@[simp] def gAndT (g k : GT) : GT := fun ρ h Q => g ρ h fun b h1 => if b = true then k ρ h1 Q else Q false h1
@[simp] def gOrT (g k : GT) : GT := fun ρ h Q => g ρ h fun b h1 => if b = true then Q true h1 else k ρ h1 Q
@[simp] def gNotT (g : GT) : GT := fun ρ h Q => g ρ h fun b h1 => Q (!b) h1
variable {g k : GT} {rest : List Expr}
theorem t_and (ha : T3 X a g) (hb : W3 X (.BoolOp .And (b :: rest) pos) k) : W3 X (.BoolOp .And (a :: b :: rest) pos) (gAndT g k) := PWimp (pw_and ha hb) fun σ H Q ⟨ρ, w, Q3, e, gd, q, out⟩ => by
  subst e
  refine ⟨ρ, w, _, rfl, gd, q, fun c w1 q1 r1 e1 => ?_⟩
  cases c with
  | false => exact out false w1 q1 r1 e1
  | true => exact ⟨ρ, w1, Q3, rfl, gd.ext r1 e1, q1, out.ext e1⟩
theorem t_or (ha : T3 X a g) (hb : W3 X (.BoolOp .Or (b :: rest) pos) k) : W3 X (.BoolOp .Or (a :: b :: rest) pos) (gOrT g k) := PWimp (pw_or ha hb) fun σ H Q ⟨ρ, w, Q3, e, gd, q, out⟩ => by
  subst e
  refine ⟨ρ, w, _, rfl, gd, q, fun c w1 q1 r1 e1 => ?_⟩
  cases c with
  | true => exact out true w1 q1 r1 e1
  | false => exact ⟨ρ, w1, Q3, rfl, gd.ext r1 e1, q1, out.ext e1⟩
theorem t_w (h : W3 X a g) : T3 X a g := PW.pt h
theorem t_not (ha : T3 X a g) : T3 X (.UnaryOp .Not a pos) (gNotT g) := PTimp (pt_not ha) fun σ H Q ⟨ρ, w, Q3, e, gd, q, out⟩ => by
  subst e
  exact ⟨ρ, w, _, rfl, gd, q, fun c w1 q1 r1 e1 => out (!c) w1 q1 r1 e1⟩
/-! .. as values -/
@[simp] def gAnd (ga gb : GE) : GE := fun ρ h Q => ga ρ h fun x h1 => ∃ k, x = .bl k ∧ if k = true then gb ρ h1 Q else Q (.bl false) h1
@[simp] def gOr (ga gb : GE) : GE := fun ρ h Q => ga ρ h fun x h1 => ∃ k, x = .bl k ∧ if k = true then Q (.bl true) h1 else gb ρ h1 Q
@[simp] def gNot (ga : GE) : GE := fun ρ h Q => ga ρ h fun x h1 => ∃ k, x = .bl k ∧ Q (.bl (!k)) h1
theorem e_one {op : BoolOp} (h : E3 X a ga) : E3 X (.BoolOp op [a] pos) ga := pe_one h
theorem e_and (ha : E3 X a ga) (hb : E3 X (.BoolOp .And (b :: rest) pos) gb) : E3 X (.BoolOp .And (a :: b :: rest) pos) (gAnd ga gb) := PEimp (pe_and ha hb) fun σ H Q ⟨ρ, w, Q3, e, gd, q, out⟩ => by
  subst e
  refine ⟨ρ, w, _, rfl, gd, q, fun d w1 v ⟨k, e, q1⟩ r1 e1 p1 => ?_⟩
  subst e
  cases p1
  refine ⟨k, rfl, ?_⟩
  cases k with
  | false => exact out _ w1 _ q1 r1 e1 (.bl false)
  | true => exact ⟨ρ, w1, Q3, rfl, gd.ext r1 e1, q1, out.ext e1⟩
theorem e_or (ha : E3 X a ga) (hb : E3 X (.BoolOp .Or (b :: rest) pos) gb) : E3 X (.BoolOp .Or (a :: b :: rest) pos) (gOr ga gb) := PEimp (pe_or ha hb) fun σ H Q ⟨ρ, w, Q3, e, gd, q, out⟩ => by
  subst e
  refine ⟨ρ, w, _, rfl, gd, q, fun d w1 v ⟨k, e, q1⟩ r1 e1 p1 => ?_⟩
  subst e
  cases p1
  refine ⟨k, rfl, ?_⟩
  cases k with
  | true => exact out _ w1 _ q1 r1 e1 (.bl true)
  | false => exact ⟨ρ, w1, Q3, rfl, gd.ext r1 e1, q1, out.ext e1⟩
theorem e_not (ha : E3 X a ga) : E3 X (.UnaryOp .Not a pos) (gNot ga) := PEimp (pe_not ha) fun σ H Q ⟨ρ, w, Q3, e, gd, q, out⟩ => by
  subst e
  refine ⟨ρ, w, _, rfl, gd, q, fun d w1 v ⟨k, e, q1⟩ r1 e1 p1 => ?_⟩
  subst e
  cases p1
  exact ⟨k, rfl, out _ w1 _ q1 r1 e1 (.bl _)⟩
@[simp] def gIf (g : GT) (ga gb : GE) : GE := fun ρ h Q => g ρ h fun k h1 => if k = true then ga ρ h1 Q else gb ρ h1 Q
theorem e_if (hc : T3 X c g) (ha : E3 X a ga) (hb : E3 X b gb) : E3 X (.IfExp c a b pos) (gIf g ga gb) := PEimp (pe_ifExp hc ha hb) fun σ H Q ⟨ρ, w, Q3, e, gd, q, out⟩ => by
  subst e
  refine ⟨ρ, w, _, rfl, gd, q, fun d w1 q1 r1 e1 => ?_⟩
  cases d with
  | true => exact ⟨ρ, w1, Q3, rfl, gd.ext r1 e1, q1, out.ext e1⟩
  | false => exact ⟨ρ, w1, Q3, rfl, gd.ext r1 e1, q1, out.ext e1⟩
/-! ### argument lists, displays -/
@[simp] def gNil : GA := fun _ h Q => Q [] h
@[simp] def gCons (g : GE) (r : GA) : GA := fun ρ h Q => g ρ h fun d h1 => r ρ h1 fun ds h2 => Q (d :: ds) h2
variable {e : Expr} {es : List Expr} {gs : GA} {ge : GE}
theorem a_nil : A3 X [] gNil := PAimp pa_nil fun σ H Q ⟨ρ, w, Q3, e, gd, q, out⟩ => by
  subst e
  exact out [] w [] q gd.rel (Ext.refl w) .nil
theorem a_cons (ha : E3 X e ge) (hr : A3 X es gs) (hs : starEach (e :: es) X.env = (false, eval e X.env) :: starEach es X.env := by rfl) : A3 X (e :: es) (gCons ge gs) := PAimp (pa_cons ha hr hs) fun σ H Q ⟨ρ, w, Q3, e, gd, q, out⟩ => by
  subst e
  exact ⟨ρ, w, _, rfl, gd, q, fun d1 w1 v1 q1 r1 e1 p1 => ⟨ρ, w1, _, rfl, gd.ext r1 e1, q1, fun ds w2 vs q2 r2 e2 p2 => out _ w2 _ q2 r2 (e1.trans e2) (.cons (p1.ext e2) p2)⟩⟩
@[simp] def gTup (g : GA) : GE := fun ρ h Q => g ρ h fun ds h1 => ds.length ≤ sizeLine ∧ Q (.tup ds) h1
@[simp] def gLst (g : GA) : GE := fun ρ h Q => g ρ h fun ds h1 => ds.length ≤ sizeLine ∧ Q (.lst ds) h1
@[simp] def gMLst (g : GA) : GE := fun ρ h Q => g ρ h fun ds h1 => ds.length ≤ sizeLine ∧ ∀ p, h1 p = none → Q (.ref p) (mput h1 p (.lst ds))
theorem new_tup {K : PySem.W.Frag} {w : Wd} {ds : List Dv} {xs : List V} {p : Addr} (r : Rel K w) (ra : RpAll K w ds xs) (e : w.H p = none) :
    Rel K ⟨w.h, upd w.G p (.tup xs), upd w.H p (.tup xs)⟩ ∧ Ext w ⟨w.h, upd w.G p (.tup xs), upd w.H p (.tup xs)⟩ ∧ Rp K ⟨w.h, upd w.G p (.tup xs), upd w.H p (.tup xs)⟩ (.tup ds) (.ref p) := by
  obtain ⟨a, b⟩ := r.newF e (.tup xs)
  exact ⟨a, b, .tup ⟨(r.hnone e).2, upd_same⟩ (ra.ext b)⟩
theorem new_lst {K : PySem.W.Frag} {w : Wd} {ds : List Dv} {xs : List V} {p : Addr} (r : Rel K w) (ra : RpAll K w ds xs) (e : w.H p = none) :
    Rel K ⟨w.h, upd w.G p (.lst xs), upd w.H p (.lst xs)⟩ ∧ Ext w ⟨w.h, upd w.G p (.lst xs), upd w.H p (.lst xs)⟩ ∧ Rp K ⟨w.h, upd w.G p (.lst xs), upd w.H p (.lst xs)⟩ (.lst ds) (.ref p) := by
  obtain ⟨a, b⟩ := r.newF e (.lst xs)
  exact ⟨a, b, .lst (.inl ⟨(r.hnone e).2, upd_same⟩) (ra.ext b)⟩
theorem put_lst {K : PySem.W.Frag} {w : Wd} {ds : List Dv} {xs : List V} {p : Addr} (r : Rel K w) (ra : RpAll K w ds xs) (e : w.H p = none ∨ ∃ m, w.h p = some m ∧ ¬ isLk m) :
    Rel K ⟨mput w.h p (.lst ds), upd w.G p (.lst xs), upd w.H p (.lst xs)⟩ ∧ Ext w ⟨mput w.h p (.lst ds), upd w.G p (.lst xs), upd w.H p (.lst xs)⟩ := r.put e fun v ex g => ⟨xs, g, ra.ext ex⟩
theorem e_tup {x1} (h : A3 X es gs) : E3 X (.Tuple es x1 pos) (gTup gs) := PEimp (pe_tup h) fun σ H Q ⟨ρ, w, Q3, e, gd, q, out⟩ => by
  subst e
  refine ⟨ρ, w, _, rfl, gd, q, fun ds w1 vs ⟨hz, q1⟩ r1 e1 p1 => ⟨by rw [← p1.length]; exact hz, fun p np => ?_⟩⟩
  obtain ⟨r2, e2, p2⟩ := new_tup r1 p1 np
  exact out (.tup ds) ⟨w1.h, upd w1.G p (.tup vs), upd w1.H p (.tup vs)⟩ _ q1 r2 (e1.trans e2) p2
theorem e_lst (h : A3 X es gs) : E3 X (.List es pos) (gLst gs) := PEimp (pe_lst h) fun σ H Q ⟨ρ, w, Q3, e, gd, q, out⟩ => by
  subst e
  refine ⟨ρ, w, _, rfl, gd, q, fun ds w1 vs ⟨hz, q1⟩ r1 e1 p1 => ⟨by rw [← p1.length]; exact hz, fun p np => ?_⟩⟩
  obtain ⟨r2, e2, p2⟩ := new_lst r1 p1 np
  exact out (.lst ds) ⟨w1.h, upd w1.G p (.lst vs), upd w1.H p (.lst vs)⟩ _ q1 r2 (e1.trans e2) p2
theorem e_mlst (h : A3 X es gs) : E3 X (.List es pos) (gMLst gs) := PEimp (pe_lst h) fun σ H Q ⟨ρ, w, Q3, e, gd, q, out⟩ => by
  subst e
  refine ⟨ρ, w, _, rfl, gd, q, fun ds w1 vs ⟨hz, q1⟩ r1 e1 p1 => ⟨by rw [← p1.length]; exact hz, fun p np => ?_⟩⟩
  obtain ⟨r2, e2⟩ := put_lst (p := p) r1 p1 (.inl np)
  exact out (.ref p) ⟨mput w1.h p (.lst ds), upd w1.G p (.lst vs), upd w1.H p (.lst vs)⟩ _ (q1 p (r1.hnone np).2) r2 (e1.trans e2) (.ref p)
end
end G3

namespace G3
open PySem L2

/-! ### trees as plain data -/
mutual
def py : Dv → PyData
  | .non => .none
  | .bl b => .bool b
  | .int i => .int i
  | .str x => .str x
  | .tup ds => .tuple (pys ds)
  | .lst ds => .list (pys ds)
  | .ref _ => .none
  | .obj _ => .none
  | .ty _ => .none
def pys : List Dv → List PyData
  | [] => []
  | d :: ds => py d :: pys ds
end
mutual
/-- nothing but plain data within -/
@[simp] def dat : Dv → Bool
  | .ref _ => false
  | .obj _ => false
  | .ty _ => false
  | .tup ds => dats ds
  | .lst ds => dats ds
  | .non => true
  | .bl _ => true
  | .int _ => true
  | .str _ => true
@[simp] def dats : List Dv → Bool
  | [] => true
  | d :: ds => dat d && dats ds
end
mutual
@[simp] def dep : Dv → Nat
  | .tup ds => deps ds + 1
  | .lst ds => deps ds + 1
  | .ref _ => 0
  | .obj _ => 0
  | .ty _ => 0
  | .non => 0
  | .bl _ => 0
  | .int _ => 0
  | .str _ => 0
@[simp] def deps : List Dv → Nat
  | [] => 0
  | d :: ds => max (dep d) (deps ds)
end
mutual
/-- == -/
@[simp] def deq : Dv → Dv → Bool
  | .non, b => match b with | .non => true | _ => false
  | .bl a, b => match b with | .bl b => a == b | .int j => (if a then 1 else 0) == j | _ => false
  | .int i, b => match b with | .bl b => i == (if b then 1 else 0) | .int j => i == j | _ => false
  | .str x, b => match b with | .str y => x == y | _ => false
  | .tup xs, b => match b with | .tup ys => deqs xs ys | _ => false
  | .lst xs, b => match b with | .lst ys => deqs xs ys | _ => false
  | .ref _, _ => false
  | .obj _, _ => false
  | .ty _, _ => false
@[simp] def deqs : List Dv → List Dv → Bool
  | [], ys => match ys with | [] => true | _ => false
  | x :: xs, ys => match ys with | y :: ys => deq x y && deqs xs ys | [] => false
end
mutual
theorem plain_py : ∀ d : Dv, (py d).plain = true
  | .non | .bl _ | .int _ | .str _ | .ref _ | .obj _ | .ty _ => by simp [py, PyData.plain]
  | .tup ds => by simp [py, PyData.plain, plain_pys ds]
  | .lst ds => by simp [py, PyData.plain, plain_pys ds]
theorem plain_pys : ∀ ds : List Dv, PyData.plainAll (pys ds) = true
  | [] => by simp [pys, PyData.plainAll]
  | d :: ds => by simp [pys, PyData.plainAll, plain_py d, plain_pys ds]
end
mutual
theorem depth_py : ∀ d : Dv, (py d).depth = dep d
  | .non | .bl _ | .int _ | .str _ | .ref _ | .obj _ | .ty _ => by simp [py, PyData.depth, dep]
  | .tup ds => by simp [py, PyData.depth, dep, depth_pys ds]
  | .lst ds => by simp [py, PyData.depth, dep, depth_pys ds]
theorem depth_pys : ∀ ds : List Dv, PyData.depthAll (pys ds) = deps ds
  | [] => by simp [pys, PyData.depthAll, deps]
  | d :: ds => by simp [pys, PyData.depthAll, deps, depth_py d, depth_pys ds]
end
mutual
theorem eqv_py : ∀ a b : Dv, dat a = true → dat b = true → PyData.eqv (py a) (py b) = deq a b
  | .non, b, _, hb => by cases b <;> first | (simp [dat] at hb; done) | simp [py, PyData.eqv, deq]
  | .bl _, b, _, hb => by cases b <;> first | (simp [dat] at hb; done) | simp [py, PyData.eqv, deq]
  | .int _, b, _, hb => by cases b <;> first | (simp [dat] at hb; done) | simp [py, PyData.eqv, deq]
  | .str _, b, _, hb => by cases b <;> first | (simp [dat] at hb; done) | simp [py, PyData.eqv, deq]
  | .tup xs, b, ha, hb => by
    cases b <;> first
      | (simp [dat] at hb; done)
      | simp [py, PyData.eqv, deq]; done
      | (simp only [py, PyData.eqv, deq]; exact eqv_pys xs _ (by simpa [dat] using ha) (by simpa [dat] using hb))
  | .lst xs, b, ha, hb => by
    cases b <;> first
      | (simp [dat] at hb; done)
      | simp [py, PyData.eqv, deq]; done
      | (simp only [py, PyData.eqv, deq]; exact eqv_pys xs _ (by simpa [dat] using ha) (by simpa [dat] using hb))
  | .ref _, _, ha, _ => by simp [dat] at ha
  | .obj _, _, ha, _ => by simp [dat] at ha
  | .ty _, _, ha, _ => by simp [dat] at ha
theorem eqv_pys : ∀ xs ys : List Dv, dats xs = true → dats ys = true → PyData.eqvAll (pys xs) (pys ys) = deqs xs ys
  | [], [], _, _ => by simp [pys, PyData.eqvAll, deqs]
  | [], _ :: _, _, _ => by simp [pys, PyData.eqvAll, deqs]
  | _ :: _, [], _, _ => by simp [pys, PyData.eqvAll, deqs]
  | x :: xs, y :: ys, ha, hb => by
    simp only [dats, Bool.and_eq_true] at ha hb
    simp only [pys, PyData.eqvAll, deqs, eqv_py x y ha.1 hb.1, eqv_pys xs ys ha.2 hb.2]
end
section
variable {K : PySem.W.Frag} {w : Wd}
mutual
theorem Rp.dp (r : Rel K w) : ∀ (d : Dv) (v : V), Rp K w d v → dat d = true → Dp K w.H v (py d)
  | .non, _, h, _ => by cases h; exact .non
  | .bl _, _, h, _ => by cases h; exact .bl _
  | .int _, _, h, _ => by cases h; exact .int _
  | .str _, _, h, _ => by cases h; exact .str _
  | .tup ds, _, h, hd => by
    cases h with
    | tup t a => exact .tup (r.sqT t) (RpAll.dp r ds _ a (by simpa [dat] using hd))
  | .lst ds, _, h, hd => by
    cases h with
    | lst t a => exact .lst (r.sqL t) (RpAll.dp r ds _ a (by simpa [dat] using hd))
  | .ref _, _, _, hd => by simp [dat] at hd
  | .obj _, _, _, hd => by simp [dat] at hd
  | .ty _, _, _, hd => by simp [dat] at hd
theorem RpAll.dp (r : Rel K w) : ∀ (ds : List Dv) (vs : List V), RpAll K w ds vs → dats ds = true → DpAll K w.H vs (pys ds)
  | [], _, h, _ => by cases h; exact .nil
  | d :: ds, _, h, hd => by
    simp only [dats, Bool.and_eq_true] at hd
    cases h with
    | cons a b => exact .cons (Rp.dp r d _ a hd.1) (RpAll.dp r ds _ b hd.2)
end
/-- the items of a list, frozen or not -/
def lstOf (h : Mh) : Dv → Option (List Dv)
  | .lst ds => some ds
  | .ref a => match h a with | some (.lst ds) => some ds | _ => none
  | _ => none
theorem lstOf_at (r : Rel K w) {d : Dv} {v : V} {ds : List Dv} (p : Rp K w d v) (e : lstOf w.h d = some ds) : ∃ a xs, v = .ref a ∧ SqL K w.H a xs ∧ RpAll K w ds xs := by
  cases p with
  | lst t a => cases e; exact ⟨_, _, rfl, r.sqL t, a⟩
  | ref a =>
    simp only [lstOf] at e
    split at e
    · rename_i ds' h
      cases e
      obtain ⟨xs, _, hH, ra⟩ := r.mlst h
      exact ⟨a, xs, rfl, .inl (.inl hH), ra⟩
    · cases e
  | _ => cases e
/-- the items of a list or tuple -/
def seqOf (h : Mh) : Dv → Option (List Dv)
  | .tup ds => some ds
  | d => lstOf h d
theorem seqOf_at (r : Rel K w) {d : Dv} {v : V} {ds : List Dv} (p : Rp K w d v) (e : seqOf w.h d = some ds) : ∃ a xs, v = .ref a ∧ (SqL K w.H a xs ∨ SqT K w.H a xs) ∧ RpAll K w ds xs := by
  have go : lstOf w.h d = some ds → ∃ a xs, v = .ref a ∧ (SqL K w.H a xs ∨ SqT K w.H a xs) ∧ RpAll K w ds xs := fun e => by
    obtain ⟨a, xs, e1, e2, e3⟩ := lstOf_at r p e
    exact ⟨a, xs, e1, .inl e2, e3⟩
  cases p with
  | tup t a => cases e; exact ⟨_, _, rfl, .inr (r.sqT t), a⟩
  | lst t a => exact go e
  | ref a => exact go e
  | _ => cases e
end

/-! ### == and its kin -/
section
variable {X : Cx}
@[simp] def okE (d : Dv) : Prop := dat d = true ∧ dep d ≤ 60
@[simp] def rEqD3 (neg : Bool) : D2 := fun a b h Q => okE a ∧ okE b ∧ Q (.bl (if neg then !deq a b else deq a b)) h
theorem reads_of {pins : List (Addr × Obj)} {σ : St} {H : Hp} {s : Shared} (I : Inv X pins σ H s) {w : Wd} {a : Dv} {x : V} {v : Value} (e : w.H = H) (r : Rel X.K w) (p : Rp X.K w a x) (rx : RelV x v) (ha : dat a = true) : ∃ as, Reads s.heap v (py a) as := by
  subst e
  exact Dp.reads I (py a) x v (Rp.dp r a x p ha) rx
theorem o_eq (hu : X.A.units + 64 < cLine) : OpR X (compareOp .Eq) (lo2 X.K (rEqD3 false)) := by
  intro pins s σ H x y v u Q I rx ry h
  obtain ⟨a, b, w, Q3, e, r, pa, pb, ⟨oa, ob, q⟩, out⟩ := h
  obtain ⟨as, r1⟩ := reads_of I e r pa rx oa.1
  obtain ⟨bs, r2⟩ := reads_of I e r pb ry ob.1
  subst e
  refine SeqAt.eq_plain r1 r2 (plain_py a) (plain_py b) (by rw [depth_py, depth_py]; have := oa.2; omega) ⟨.bl _, w.H, I, rfl, ?_⟩
  rw [eqv_py a b oa.1 ob.1]
  exact out _ w _ q r (Ext.refl w) (.bl _)
theorem o_ne (hu : X.A.units + 64 < cLine) : OpR X (compareOp .NotEq) (lo2 X.K (rEqD3 true)) := by
  intro pins s σ H x y v u Q I rx ry h
  obtain ⟨a, b, w, Q3, e, r, pa, pb, ⟨oa, ob, q⟩, out⟩ := h
  obtain ⟨as, r1⟩ := reads_of I e r pa rx oa.1
  obtain ⟨bs, r2⟩ := reads_of I e r pb ry ob.1
  subst e
  refine SeqAt.ne_plain r1 r2 (plain_py a) (plain_py b) (by rw [depth_py, depth_py]; have := oa.2; omega) ⟨.bl _, w.H, I, rfl, ?_⟩
  rw [eqv_py a b oa.1 ob.1]
  exact out _ w _ q r (Ext.refl w) (.bl _)
/-- x in s: a text in a text, a thing in a list or tuple -/
def strIn (x z : Str) : Bool := !(Builtin.Str.occurrences z x 0 z.length 1).isEmpty
@[simp] def isIn (x : Dv) (ds : List Dv) : Bool := ds.any fun y => deq y x
@[simp] def okIn (x : Dv) (ds : List Dv) : Prop := dat x = true ∧ dats ds = true ∧ dep x ≤ 60
def rInD (neg : Bool) : D2 := fun a b h Q => (∃ x z, a = .str x ∧ b = .str z ∧ Q (.bl (if neg then !strIn x z else strIn x z)) h) ∨
  (∃ ds, seqOf h b = some ds ∧ okIn a ds ∧ Q (.bl (if neg then !isIn a ds else isIn a ds)) h)
theorem any_pys {x : Dv} (hx : dat x = true) : ∀ ds : List Dv, dats ds = true → ((pys ds).any fun y => PyData.eqv y (py x)) = isIn x ds
  | [], _ => rfl
  | d :: ds, h => by
    simp only [dats, Bool.and_eq_true] at h
    simp only [pys, List.any_cons, isIn, eqv_py d x h.1 hx]
    rw [any_pys hx ds h.2]
    rfl
theorem o_in (hu : X.A.units + 64 < cLine) : OpR X (compareOp .In) (lo2 X.K (rInD false)) := by
  intro pins s σ H x y v u Q I rx ry h
  obtain ⟨a, b, w, Q3, e, r, pa, pb, q, out⟩ := h
  subst e
  rcases q with ⟨z, t, rfl, rfl, q⟩ | ⟨ds, hs, ⟨h1, h2, h3⟩, q⟩
  · cases pa
    cases pb
    exact op_in_str pins s σ w.H _ _ v u Q I rx ry ⟨z, t, rfl, rfl, out _ w _ q r (Ext.refl w) (.bl _)⟩
  · obtain ⟨as, r1⟩ := reads_of I rfl r pa rx h1
    obtain ⟨p, xs, rfl, hq, ra⟩ := seqOf_at r pb hs
    cases ry
    have fin : EP X pins σ Q (.bool ((pys ds).any fun y => PyData.eqv y (py a))) s := ⟨.bl _, w.H, I, rfl, by rw [any_pys h1 ds h2]; exact out _ w _ q r (Ext.refl w) (.bl _)⟩
    rcases hq with hq | hq
    · obtain ⟨bs, r2⟩ := Dp.reads I (.list (pys ds)) _ _ (.lst hq (RpAll.dp r ds _ ra h2)) rfl
      exact SeqAt.in_list_data r2 r1 (plain_pys ds) (plain_py a) (by rw [depth_py]; omega) fin
    · obtain ⟨bs, r2⟩ := Dp.reads I (.tuple (pys ds)) _ _ (.tup hq (RpAll.dp r ds _ ra h2)) rfl
      exact SeqAt.in_tuple_data r2 r1 (plain_pys ds) (plain_py a) (by rw [depth_py]; omega) fin
theorem o_notIn (hu : X.A.units + 64 < cLine) : OpR X (compareOp .NotIn) (lo2 X.K (rInD true)) := by
  intro pins s σ H x y v u Q I rx ry h
  obtain ⟨a, b, w, Q3, e, r, pa, pb, q, out⟩ := h
  subst e
  rcases q with ⟨z, t, rfl, rfl, q⟩ | ⟨ds, hs, ⟨h1, h2, h3⟩, q⟩
  · cases pa
    cases pb
    exact op_notin_str pins s σ w.H _ _ v u Q I rx ry ⟨z, t, rfl, rfl, out _ w _ q r (Ext.refl w) (.bl _)⟩
  · obtain ⟨as, r1⟩ := reads_of I rfl r pa rx h1
    obtain ⟨p, xs, rfl, hq, ra⟩ := seqOf_at r pb hs
    cases ry
    have fin : EP X pins σ Q (.bool (!(pys ds).any fun y => PyData.eqv y (py a))) s := ⟨.bl _, w.H, I, rfl, by rw [any_pys h1 ds h2]; exact out _ w _ q r (Ext.refl w) (.bl _)⟩
    rcases hq with hq | hq
    · obtain ⟨bs, r2⟩ := Dp.reads I (.list (pys ds)) _ _ (.lst hq (RpAll.dp r ds _ ra h2)) rfl
      exact SeqAt.notIn_list_data r2 r1 (plain_pys ds) (plain_py a) (by rw [depth_py]; omega) fin
    · obtain ⟨bs, r2⟩ := Dp.reads I (.tuple (pys ds)) _ _ (.tup hq (RpAll.dp r ds _ ra h2)) rfl
      exact SeqAt.notIn_tuple_data r2 r1 (plain_pys ds) (plain_py a) (by rw [depth_py]; omega) fin
/-- is None, is True .. -/
def isNon : Dv → Bool
  | .non => true
  | _ => false
theorem Rp.non_iff {K : PySem.W.Frag} {w : Wd} {d : Dv} {v : V} (p : Rp K w d v) : decide (v = .non) = isNon d := by
  cases p <;> simp [isNon]
@[simp] def rIsD (neg : Bool) : D2 := fun a b h Q => (b = .non ∧ Q (.bl (if neg then !isNon a else isNon a)) h) ∨ ∃ k l, a = .bl k ∧ b = .bl l ∧ Q (.bl (if neg then !(decide (k = l)) else decide (k = l))) h
theorem o_is : OpR X (compareOp .Is) (lo2 X.K (rIsD false)) := by
  intro pins s σ H x y v u Q I rx ry h
  obtain ⟨a, b, w, Q3, e, r, pa, pb, q, out⟩ := h
  subst e
  rcases q with ⟨rfl, q⟩ | ⟨k, l, rfl, rfl, q⟩
  · cases pb
    exact op_isN pins s σ w.H _ _ v u Q I rx ry ⟨rfl, by rw [pa.non_iff]; exact out _ w _ q r (Ext.refl w) (.bl _)⟩
  · cases pa
    cases pb
    exact op_isBl pins s σ w.H _ _ v u Q I rx ry ⟨k, l, rfl, rfl, out _ w _ q r (Ext.refl w) (.bl _)⟩
theorem o_isNot : OpR X (compareOp .IsNot) (lo2 X.K (rIsD true)) := by
  intro pins s σ H x y v u Q I rx ry h
  obtain ⟨a, b, w, Q3, e, r, pa, pb, q, out⟩ := h
  subst e
  rcases q with ⟨rfl, q⟩ | ⟨k, l, rfl, rfl, q⟩
  · cases pb
    exact op_notN pins s σ w.H _ _ v u Q I rx ry ⟨rfl, by rw [pa.non_iff]; exact out _ w _ q r (Ext.refl w) (.bl _)⟩
  · cases pa
    cases pb
    exact op_notBl pins s σ w.H _ _ v u Q I rx ry ⟨k, l, rfl, rfl, out _ w _ q r (Ext.refl w) (.bl _)⟩

/-! ### order and arithmetic of whole numbers -/
@[simp] def rCmpI (f : Int → Int → Bool) : D2 := fun a b h Q => ∃ i j, a = .int i ∧ b = .int j ∧ Q (.bl (f i j)) h
theorem o_cmpI {f : Int → Int → Bool} {op : CmpOp} (ho : OpR X (compareOp op) (rI0 fun i j => .bl (f i j))) : OpR X (compareOp op) (lo2 X.K (rCmpI f)) := by
  intro pins s σ H x y v u Q I rx ry h
  obtain ⟨a, b, w, Q3, e, r, pa, pb, ⟨i, j, rfl, rfl, q⟩, out⟩ := h
  subst e
  cases pa
  cases pb
  exact ho pins s σ w.H _ _ v u Q I rx ry ⟨i, j, rfl, rfl, out _ w _ q r (Ext.refl w) (.bl _)⟩
theorem o_lt : OpR X (compareOp .Lt) (lo2 X.K (rCmpI fun i j => decide (i < j))) := o_cmpI op_lt
theorem o_le : OpR X (compareOp .LtE) (lo2 X.K (rCmpI fun i j => decide (i ≤ j))) := o_cmpI op_le
theorem o_gt : OpR X (compareOp .Gt) (lo2 X.K (rCmpI fun i j => decide (j < i))) := o_cmpI op_gt
theorem o_ge : OpR X (compareOp .GtE) (lo2 X.K (rCmpI fun i j => decide (j ≤ i))) := o_cmpI op_ge
@[simp] def rArI (C : Int → Int → Prop) (f : Int → Int → Int) : D2 := fun a b h Q => ∃ i j, a = .int i ∧ b = .int j ∧ C i j ∧ Q (.int (f i j)) h
theorem o_arI {C : Int → Int → Prop} {f : Int → Int → Int} {g : Value → Value → Sem Value} (ho : OpR X g (rI C fun i j => .int (f i j))) : OpR X g (lo2 X.K (rArI C f)) := by
  intro pins s σ H x y v u Q I rx ry h
  obtain ⟨a, b, w, Q3, e, r, pa, pb, ⟨i, j, rfl, rfl, c, q⟩, out⟩ := h
  subst e
  cases pa
  cases pb
  exact ho pins s σ w.H _ _ v u Q I rx ry ⟨i, j, rfl, rfl, c, out _ w _ q r (Ext.refl w) (.int _)⟩
theorem o_sub : OpR X (binaryOp .Sub) (lo2 X.K (rArI (fun _ _ => True) fun i j => i - j)) := o_arI fun pins s σ H x y v u Q I rx ry ⟨i, j, e1, e2, _, q⟩ => op_sub pins s σ H x y v u Q I rx ry ⟨i, j, e1, e2, q⟩
theorem o_mod : OpR X (binaryOp .Mod) (lo2 X.K (rArI (fun _ j => 0 < j) fun i j => i % j)) := o_arI op_mod
theorem o_fdiv : OpR X (binaryOp .FloorDiv) (lo2 X.K (rArI CDivW fun i j => i / j)) := o_arI op_fdivW
theorem o_pow : OpR X (binaryOp .Pow) (lo2 X.K (rArI CPow fun i j => i ^ j.toNat)) := o_arI op_pow
/-- + : whole numbers, texts, tuples, lists -/
def rAddD : D2 := fun a b h Q => match a, b with
  | .int i, .int j => Q (.int (i + j)) h
  | .str x, .str y => x.length + y.length ≤ sizeLine ∧ Q (.str (x ++ y)) h
  | .tup xs, .tup ys => xs.length + ys.length ≤ sizeLine ∧ Q (.tup (xs ++ ys)) h
  | a, b => ∃ xs ys, lstOf h a = some xs ∧ lstOf h b = some ys ∧ xs.length + ys.length ≤ sizeLine ∧ Q (.lst (xs ++ ys)) h
theorem Inv.latK {pins : List (Addr × Obj)} {σ : St} {H : Hp} {s : Shared} {p : Addr} {xs : List V} (I : Inv X pins σ H s) (h : SqL X.K H p xs) :
    ∃ (its : List Value) (o : Obj) (n : Nat), Vals xs its ∧ xs.length = its.length ∧ xs.length ≤ sizeLine ∧ s.heap.get? p = some o ∧ o.cls = .type "list" ∧ o.dict = none ∧ o.data = .seq its.toArray n := by
  obtain ⟨its, r, ⟨o, n, e, c, d, q⟩, z⟩ := I.list h
  exact ⟨its, o, n, r, r.length, z, e, c, d, q⟩
end
end G3

namespace G3
open PySem L2

section
variable {X : Cx}
/-! ### list + list, any list that is read -/
theorem cat_lst {pins : List (Addr × Obj)} {σ : St} {s : Shared} {w : Wd} {a b : Addr} {xs ys : List V} {ds es : List Dv} {Q3 : Kd} {Q : VK} (I : Inv X pins σ w.H s) (r : Rel X.K w) (ha : SqL X.K w.H a xs) (hb : SqL X.K w.H b ys) (ra : RpAll X.K w ds xs) (rb : RpAll X.K w es ys)
    (hz : ds.length + es.length ≤ sizeLine) (q : Q3 (.lst (ds ++ es)) w.h) (out : Out X.K w Q3 Q) : wpAny (model X.prog X.w) X.A (binaryOp .Add (.ref a) (.ref b)) (EP X pins σ Q) X.xe s := by
  obtain ⟨its, rv, ⟨⟨c1, d1, t1, sl1⟩, n1, ho1, hc1, hd1, ht1⟩, _⟩ := I.list ha
  obtain ⟨its2, rv2, ⟨⟨c2, d2, t2, sl2⟩, n2, ho2, hc2, hd2, ht2⟩, _⟩ := I.list hb
  simp only at hc1 ht1 hc2 ht2
  subst hc1 ht1 hc2 ht2
  have z1 := ra.length
  have z2 := rb.length
  have z3 := rv.length
  have z4 := rv2.length
  refine concat_meets ⟨_, ho1, rfl⟩ ⟨_, ho2, rfl⟩ noFill_list_add seq_list_add PySem.F.slot_list_add PySem.F.entry_list_add (PySem.F.args_list_add_2 _ _)
    (PyProof.Rows.list_addW a b its.toArray its2.toArray n1 n2 d1 d2 sl1 sl2 (by simp only [List.size_toArray]; omega)) ⟨ho1, ho2, ?_⟩
  have ea : its.toArray ++ its2.toArray = (its ++ its2).toArray := by simp
  rw [ea]
  have rr : Vals (xs ++ ys) (its ++ its2) := rv.append rv2
  have np := I.hok.fresh (Nat.le_refl _)
  obtain ⟨r2, e2, p2⟩ := new_lst (p := s.heap.objs.size) r (ra.append rb) np
  refine ⟨.ref s.heap.objs.size, _, I.laid (t' := s.toks) (o := .lst (xs ++ ys)) (fun b ob q => Heap.get?_push_of_some _ q) (Nat.le_refl _) ⟨by rw [List.length_append]; omega, _, _, rr, Heap.get?_push_size _ rfl⟩, rfl, ?_⟩
  exact out.go r2 e2 p2 q
theorem o_add : OpR X (binaryOp .Add) (lo2 X.K rAddD) := by
  intro pins s σ H x y v u Q I rx ry h
  obtain ⟨a, b, w, Q3, e, r, pa, pb, q, out⟩ := h
  subst e
  have lists : (∃ xs ys, lstOf w.h a = some xs ∧ lstOf w.h b = some ys ∧ xs.length + ys.length ≤ sizeLine ∧ Q3 (.lst (xs ++ ys)) w.h) → wpAny (model X.prog X.w) X.A (binaryOp .Add v u) (EP X pins σ Q) X.xe s := fun ⟨xs, ys, h1, h2, h3, h4⟩ => by
    obtain ⟨p, vs, rfl, sq, ra⟩ := lstOf_at r pa h1
    obtain ⟨p2, vs2, rfl, sq2, rb⟩ := lstOf_at r pb h2
    cases rx
    cases ry
    exact cat_lst I r sq sq2 ra rb h3 h4 out
  cases a with
  | int i =>
    cases b with
    | int j =>
      cases pa
      cases pb
      exact op_add pins s σ w.H _ _ v u Q I rx ry ⟨i, j, rfl, rfl, out _ w _ q r (Ext.refl w) (.int _)⟩
    | _ => exact lists q
  | str i =>
    cases b with
    | str j =>
      cases pa
      cases pb
      exact op_add_str pins s σ w.H _ _ v u Q I rx ry ⟨i, j, rfl, rfl, q.1, out _ w _ q.2 r (Ext.refl w) (.str _)⟩
    | _ => exact lists q
  | tup xs =>
    cases b with
    | tup ys =>
      obtain ⟨hz, q⟩ := q
      cases pa with
      | tup ta ra =>
        cases pb with
        | tup tb rb =>
          rename_i p vs p2 vs2
          have z1 := ra.length
          have z2 := rb.length
          refine op_catA pins s σ w.H _ _ v u Q I rx ry ⟨_, _, _, _, rfl, rfl, r.sqT ta, r.sqT tb, by omega, fun e => ?_, fun _ e => ?_, fun _ _ p3 np => ?_⟩
          · have e' : xs = [] := by cases xs with | nil => rfl | cons _ _ => rw [e] at z1; cases z1
            rw [e', List.nil_append] at q
            exact out _ w _ q r (Ext.refl w) (.tup tb rb)
          · have e' : ys = [] := by cases ys with | nil => rfl | cons _ _ => rw [e] at z2; cases z2
            rw [e', List.append_nil] at q
            exact out _ w _ q r (Ext.refl w) (.tup ta ra)
          · obtain ⟨r2, e2, p2⟩ := new_tup (p := p3) r (ra.append rb) np
            exact out.go r2 e2 p2 q
    | _ => exact lists q
  | _ => exact lists q
/-- * of whole numbers -/
theorem o_mulI : OpR X (binaryOp .Mult) (lo2 X.K (rArI CMulW fun i j => i * j)) := o_arI op_mulW
/-- a tuple twice and more -/
def rMulT : D2 := fun a b h Q => ∃ xs k, a = .tup xs ∧ b = .int k ∧ xs ≠ [] ∧ 2 ≤ k ∧ k ≤ 1000 ∧ xs.length ≤ 1000 ∧ Q (.tup (List.replicate k.toNat xs).flatten) h
theorem RpAll.rep {K : PySem.W.Frag} {w : Wd} {ds : List Dv} {xs : List V} (r : RpAll K w ds xs) : ∀ k : Nat, RpAll K w (List.replicate k ds).flatten (List.replicate k xs).flatten
  | 0 => .nil
  | k + 1 => by
    rw [List.replicate_succ, List.replicate_succ, List.flatten_cons, List.flatten_cons]
    exact r.append (RpAll.rep r k)
theorem o_mulT : OpR X (binaryOp .Mult) (lo2 X.K rMulT) := by
  intro pins s σ H x y v u Q I rx ry h
  obtain ⟨a, b, w, Q3, e, r, pa, pb, ⟨xs, k, rfl, rfl, h0, h1, h2, h3, q⟩, out⟩ := h
  subst e
  cases pb
  cases pa with
  | tup ta ra =>
    have z := ra.length
    refine op_repT pins s σ w.H _ _ v u Q I rx ry ⟨_, k, _, rfl, rfl, r.sqT ta, fun e => ?_, h1, h2, by omega, fun p np => ?_⟩
    · rw [e] at z
      cases xs with
      | nil => exact h0 rfl
      | cons _ _ => cases z
    · obtain ⟨r2, e2, p2⟩ := new_tup (p := p) r (ra.rep k.toNat) np
      exact out.go r2 e2 p2 q
def D2or (r r' : D2) : D2 := fun a b h Q => r a b h Q ∨ r' a b h Q
theorem o_or {f : Value → Value → Sem Value} {r r' : D2} (h : OpR X f (lo2 X.K r)) (h' : OpR X f (lo2 X.K r')) : OpR X f (lo2 X.K (D2or r r')) := by
  intro pins s σ H x y v u Q I rx ry q
  obtain ⟨a, b, w, Q3, e, rl, pa, pb, q, out⟩ := q
  rcases q with q | q
  · exact h pins s σ H x y v u Q I rx ry ⟨a, b, w, Q3, e, rl, pa, pb, q, out⟩
  · exact h' pins s σ H x y v u Q I rx ry ⟨a, b, w, Q3, e, rl, pa, pb, q, out⟩
theorem o_mul : OpR X (binaryOp .Mult) (lo2 X.K (D2or (rArI CMulW fun i j => i * j) rMulT)) := o_or o_mulI o_mulT

/-! ### items, slices -/
theorem atI_rp {K : PySem.W.Frag} {w : Wd} {ds : List Dv} {xs : List V} {i : Int} {d : Dv} (r : RpAll K w ds xs) (h : atI ds i = some d) : ∃ x, atI xs i = some x ∧ Rp K w d x := by
  unfold atI at h ⊢
  rw [r.length] at h
  cases e : ixN xs.length i with
  | none => rw [e] at h; cases h
  | some j =>
    rw [e] at h
    exact r.get' h
/-- x[i] of a text, a tuple, a list -/
def rIxD : D2 := fun a b h Q => ∃ i, b = .int i ∧ ((∃ z c, a = .str z ∧ z.length ≤ sizeLine ∧ atI z.cps.toList i = some c ∧ Q (.str ⟨#[c]⟩) h) ∨ (∃ ds d, seqOf h a = some ds ∧ atI ds i = some d ∧ Q d h))
theorem o_ix : IxR X (lo2 X.K rIxD) := by
  intro ve se pins s σ H x y v u Q I rx ry h hsub
  obtain ⟨a, b, w, Q3, e, r, pa, pb, ⟨i, rfl, q⟩, out⟩ := h
  subst e
  cases pb
  rcases q with ⟨z, c, rfl, h1, h2, q⟩ | ⟨ds, d, h1, h2, q⟩
  · cases pa
    exact ix_seq ve se pins s σ w.H _ _ v u Q I rx ry (.inr (.inr ⟨z, i, c, rfl, rfl, h1, h2, out _ w _ q r (Ext.refl w) (.str _)⟩)) hsub
  · obtain ⟨p, xs, rfl, hq, ra⟩ := seqOf_at r pa h1
    obtain ⟨t, h3, rp⟩ := atI_rp ra h2
    rcases hq with hq | hq
    · exact ix_seq ve se pins s σ w.H _ _ v u Q I rx ry (.inl ⟨p, xs, i, t, rfl, rfl, hq, h3, out _ w _ q r (Ext.refl w) rp⟩) hsub
    · exact ix_seq ve se pins s σ w.H _ _ v u Q I rx ry (.inr (.inl ⟨p, xs, i, t, rfl, rfl, hq, h3, out _ w _ q r (Ext.refl w) rp⟩)) hsub
variable {a b : Expr} {ga gb : GE} {pos : Pos}
theorem e_ix (ha : E3 X a ga) (hb : E3 X b gb) (hs : PlainIx b := by exact fun _ _ => rfl) : E3 X (.Subscript a b pos) (gOp rIxD ga gb) := PEimp (pe_ix o_ix ha hb hs) fun _ _ _ h => lo_op h
abbrev GO := Sl → Mh → (Option Int → Mh → Prop) → Prop
def OutO (K : PySem.W.Frag) (w : Wd) (Q3 : Option Int → Mh → Prop) (Q : Option Int → Hp → Prop) : Prop := ∀ b w', Q3 b w'.h → Rel K w' → Ext w w' → Q b w'.H
def loO (K : PySem.W.Frag) (g : GO) : TO := fun σ H Q => ∃ ρ w Q3, w.H = H ∧ Good K ρ w σ ∧ g ρ w.h Q3 ∧ OutO K w Q3 Q
def P3 (X : Cx) (e : Option Expr) (g : GO) : Prop := PO X e (loO X.K g)
@[simp] def gNoPart : GO := fun _ h Q => Q none h
@[simp] def gPart (g : GE) : GO := fun ρ h Q => g ρ h fun d h1 => ∃ i, d = .int i ∧ Q (some i) h1
theorem p_none : P3 X none gNoPart := ⟨fun pins s σ H Q I ⟨ρ, w, Q3, e, gd, q, out⟩ => by
  subst e
  exact po_none.run pins s σ w.H Q I (out none w q gd.rel (Ext.refl w))⟩
theorem p_some (ha : E3 X a ga) : P3 X (some a) (gPart ga) := ⟨fun pins s σ H Q I ⟨ρ, w, Q3, e, gd, q, out⟩ => by
  subst e
  refine (po_some ha).run pins s σ w.H Q I ⟨ρ, w, _, rfl, gd, q, fun d w1 v ⟨i, e, q1⟩ r1 e1 p1 => ?_⟩
  subst e
  cases p1
  exact ⟨i, rfl, out (some i) w1 q1 r1 e1⟩⟩
/-- the items of xs[lo:hi] -/
def cutD (xs : List Dv) (lo hi : Option Int) : List Dv := (xs.drop (HT.sIx xs.length 0 lo)).take (HT.sIx xs.length xs.length hi - HT.sIx xs.length 0 lo)
theorem cut_rp {K : PySem.W.Frag} {w : Wd} {ds : List Dv} {xs : List V} (lo hi : Option Int) (r : RpAll K w ds xs) : RpAll K w (cutD ds lo hi) (cutV xs lo hi) := by
  unfold cutD cutV
  rw [r.length]
  exact (r.drop _).take _
theorem cutD_whole {xs : List Dv} {lo hi : Option Int} (h : HT.sIx xs.length 0 lo = 0 ∧ HT.sIx xs.length xs.length hi = xs.length) : cutD xs lo hi = xs := by
  unfold cutD
  rw [h.1, h.2, List.drop_zero, Nat.sub_zero, List.take_length]
abbrev DSl := Dv → Option Int → Option Int → Mh → Kd → Prop
def rSlD : DSl := fun a lo hi h Q => match a with
  | .str z => z.length ≤ sizeLine ∧ Q (.str (cutS z lo hi)) h
  | .tup ds => Q (.tup (cutD ds lo hi)) h
  | a => ∃ ds, lstOf h a = some ds ∧ Q (.lst (cutD ds lo hi)) h
def loSl (K : PySem.W.Frag) (r : DSl) : V → Option Int → Option Int → Hp → VK → Prop := fun x lo hi H Q => ∃ a w Q3, w.H = H ∧ Rel K w ∧ Rp K w a x ∧ r a lo hi w.h Q3 ∧ Out K w Q3 Q
theorem o_sl : SlR X (loSl X.K rSlD) := by
  intro pins s σ H x v vl vu lo hi sl Q I rx hs pl pu h
  obtain ⟨a, w, Q3, e, r, pa, q, out⟩ := h
  subst e
  have lists : (∃ ds, lstOf w.h a = some ds ∧ Q3 (.lst (cutD ds lo hi)) w.h) → ∃ T id, typeLookup (.type T) "__getitem__" = pure (some (.builtin id)) ∧ s.TypeIs v T ∧ wpAny (model X.prog X.w) X.A (getItem v (.ref sl)) (EP X pins σ Q) X.xe s := fun ⟨ds, h1, q⟩ => by
    obtain ⟨p, xs, e, sq, ra⟩ := lstOf_at r pa h1
    subst e
    refine sl_list pins s σ w.H _ v vl vu lo hi sl Q I rx hs pl pu ⟨p, xs, rfl, sq, fun p np => ?_⟩
    obtain ⟨r2, e2, p2⟩ := new_lst (p := p) r (cut_rp lo hi ra) np
    exact out.go r2 e2 p2 q
  cases a with
  | str z =>
    cases pa
    exact sl_str pins s σ w.H _ v vl vu lo hi sl Q I rx hs pl pu ⟨z, rfl, q.1, out _ w _ q.2 r (Ext.refl w) (.str _)⟩
  | tup ds =>
    cases pa with
    | tup ta ra =>
      refine sl_tupA pins s σ w.H _ v vl vu lo hi sl Q I rx hs pl pu ⟨_, _, rfl, r.sqT ta, fun hw => ?_, fun _ p np => ?_⟩
      · rw [← ra.length] at hw
        have q : Q3 (.tup (cutD ds lo hi)) w.h := q
        rw [cutD_whole hw] at q
        exact out _ w _ q r (Ext.refl w) (.tup ta ra)
      · obtain ⟨r2, e2, p2⟩ := new_tup (p := p) r (cut_rp lo hi ra) np
        exact out.go r2 e2 p2 q
  | _ => exact lists q
@[simp] def gSl (ga : GE) (gl gh : GO) : GE := fun ρ h Q => ga ρ h fun x h1 => gl ρ h1 fun l h2 => gh ρ h2 fun u h3 => rSlD x l u h3 Q
theorem e_sl {lo hi : Option Expr} {gl gh : GO} {p2 : Pos} (ha : E3 X a ga) (hl : P3 X lo gl) (hh : P3 X hi gh) : E3 X (.Subscript a (.Slice lo hi none p2) pos) (gSl ga gl gh) := PEimp (pe_slice o_sl ha hl hh) fun σ H Q ⟨ρ, w, Q3, e, gd, q, out⟩ => by
  subst e
  exact ⟨ρ, w, _, rfl, gd, q, fun d1 w1 v1 q1 r1 e1 p1 => ⟨ρ, w1, _, rfl, gd.ext r1 e1, q1, fun l w2 q2 r2 e2 => ⟨ρ, w2, _, rfl, (gd.ext r1 e1).ext r2 e2, q2, fun u w3 q3 r3 e3 => ⟨d1, w3, Q3, rfl, r3, (p1.ext e2).ext e3, q3, out.ext ((e1.trans e2).trans e3)⟩⟩⟩⟩

/-! ### calls of built-ins -/
def C3 (X : Cx) (f : Value) (r : DC) : Prop := CallR X f (loC X.K r)
theorem RpAll.one {K : PySem.W.Frag} {w : Wd} {d : Dv} {xs : List V} (r : RpAll K w [d] xs) : ∃ x, xs = [x] ∧ Rp K w d x := by
  cases r with
  | cons a b => cases b; exact ⟨_, rfl, a⟩
theorem RpAll.two {K : PySem.W.Frag} {w : Wd} {d e : Dv} {xs : List V} (r : RpAll K w [d, e] xs) : ∃ x y, xs = [x, y] ∧ Rp K w d x ∧ Rp K w e y := by
  cases r with
  | cons a b =>
    obtain ⟨y, e1, b1⟩ := b.one
    subst e1
    exact ⟨_, y, rfl, a, b1⟩
variable {id T : String} {r : DC} {x : Str} {p : Pos} {e : Expr} {es : List Expr} {gs : GA}
@[simp] def gCall (r : DC) (gs : GA) : GE := fun ρ h Q => gs ρ h fun ds h1 => r ds h1 Q
theorem lo_call {K : PySem.W.Frag} {σ : St} {H : Hp} {Q : VK} (h : lo K (gCall r gs) σ H Q) : tCB (loC K r) (loA K gs) σ H Q := by
  obtain ⟨ρ, w, Q3, e, gd, q, out⟩ := h
  subst e
  exact ⟨ρ, w, _, rfl, gd, q, fun ds w1 vs q1 r1 e1 p1 => ⟨ds, w1, Q3, rfl, r1, p1, q1, out.ext e1⟩⟩
theorem e_callB (hc : C3 X (.builtin id) r) (hg : Gl X x) (hm : X.mg x = none) (hv : bootBuiltins x = some (.builtin id)) (ha : A3 X (e :: es) gs) (hn : x ≠ "__name__" := by decide) (hdb : (x == ("__debug__" : Str)) = false := by decide)
    (he : starEach (e :: es) X.env = (false, eval e X.env) :: starEach es X.env := by rfl) (hpl : (backTo pos (starEach es X.env)).any (·.1) = false := by rfl) : E3 X (.Call (.Name x p) (e :: es) [] pos) (gCall r gs) :=
  PEimp (pe_callB hc hg hm hv ha hn hdb he hpl) fun _ _ _ h => lo_call h
theorem e_callTy (hc : C3 X (.type T) r) (hg : Gl X x) (hm : X.mg x = none) (hv : bootBuiltins x = some (.type T)) (ha : A3 X (e :: es) gs) (hn : x ≠ "__name__" := by decide) (hdb : (x == ("__debug__" : Str)) = false := by decide)
    (he : starEach (e :: es) X.env = (false, eval e X.env) :: starEach es X.env := by rfl) (hpl : (backTo pos (starEach es X.env)).any (·.1) = false := by rfl) : E3 X (.Call (.Name x p) (e :: es) [] pos) (gCall r gs) :=
  PEimp (pe_callTy hc hg hm hv ha hn hdb he hpl) fun _ _ _ h => lo_call h
/-- len -/
def cLen : DC := fun ds h Q => ∃ d, ds = [d] ∧ ((∃ z, d = .str z ∧ z.length ≤ sizeLine ∧ Q (.int z.length) h) ∨ (∃ es, seqOf h d = some es ∧ Q (.int es.length) h))
theorem c_len : C3 X (.builtin "len") cLen := by
  intro pins s σ H xs us Q I rx h
  obtain ⟨ds, w, Q3, e, r, ra, ⟨d, rfl, q⟩, out⟩ := h
  subst e
  obtain ⟨x, rfl, rp⟩ := ra.one
  rcases q with ⟨z, rfl, hz, q⟩ | ⟨es, hs, q⟩
  · cases rp
    exact call_len_str pins s σ w.H _ us Q I rx ⟨z, rfl, hz, out _ w _ q r (Ext.refl w) (.int _)⟩
  · obtain ⟨p, ys, rfl, hq, rb⟩ := seqOf_at r rp hs
    exact call_len_seq pins s σ w.H _ us Q I rx ⟨p, ys, rfl, hq, out _ w _ (by rw [← rb.length]; exact q) r (Ext.refl w) (.int _)⟩
/-- list(x), tuple(x) -/
@[simp] def cList : DC := fun ds h Q => ∃ d es, ds = [d] ∧ seqOf h d = some es ∧ Q (.lst es) h
@[simp] def cMList : DC := fun ds h Q => ∃ d es, ds = [d] ∧ seqOf h d = some es ∧ ∀ p, h p = none → Q (.ref p) (mput h p (.lst es))
@[simp] def cTuple : DC := fun ds h Q => ∃ d es, ds = [d] ∧ seqOf h d = some es ∧ Q (.tup es) h
theorem c_list : C3 X (.type "list") cList := by
  intro pins s σ H xs us Q I rx h
  obtain ⟨ds, w, Q3, e, r, ra, ⟨d, es, rfl, hs, q⟩, out⟩ := h
  subst e
  obtain ⟨x, rfl, rp⟩ := ra.one
  obtain ⟨p, ys, rfl, hq, rb⟩ := seqOf_at r rp hs
  refine call_list_of pins s σ w.H _ us Q I rx ⟨p, ys, rfl, hq, fun l nl => ?_⟩
  obtain ⟨r2, e2, p2⟩ := new_lst (p := l) r rb nl
  exact out.go r2 e2 p2 q
theorem c_mlist : C3 X (.type "list") cMList := by
  intro pins s σ H xs us Q I rx h
  obtain ⟨ds, w, Q3, e, r, ra, ⟨d, es, rfl, hs, q⟩, out⟩ := h
  subst e
  obtain ⟨x, rfl, rp⟩ := ra.one
  obtain ⟨p, ys, rfl, hq, rb⟩ := seqOf_at r rp hs
  refine call_list_of pins s σ w.H _ us Q I rx ⟨p, ys, rfl, hq, fun l nl => ?_⟩
  obtain ⟨r2, e2⟩ := put_lst (p := l) r rb (.inl nl)
  exact out (.ref l) ⟨mput w.h l (.lst es), upd w.G l (.lst ys), upd w.H l (.lst ys)⟩ _ (q l (r.hnone nl).2) r2 e2 (.ref l)
theorem c_tuple : C3 X (.type "tuple") cTuple := by
  intro pins s σ H xs us Q I rx h
  obtain ⟨ds, w, Q3, e, r, ra, ⟨d, es, rfl, hs, q⟩, out⟩ := h
  subst e
  obtain ⟨x, rfl, rp⟩ := ra.one
  have viaList : lstOf w.h d = some es → wpAny (model X.prog X.w) X.A (call (.type "tuple") us) (EP X pins σ Q) X.xe s := fun hs => by
    obtain ⟨p, ys, e, hq, rb⟩ := lstOf_at r rp hs
    subst e
    refine call_tuple_of pins s σ w.H _ us Q I rx ⟨p, ys, rfl, .inl ⟨hq, fun l nl => ?_⟩⟩
    obtain ⟨r2, e2, p2⟩ := new_tup (p := l) r rb nl
    exact out.go r2 e2 p2 q
  cases d with
  | tup ds =>
    cases hs
    cases rp with
    | tup ta rb => exact call_tuple_of pins s σ w.H _ us Q I rx ⟨_, _, rfl, .inr ⟨r.sqT ta, out _ w _ q r (Ext.refl w) (.tup ta rb)⟩⟩
  | _ => exact viaList hs
/-- str(n) -/
@[simp] def cStrI : DC := fun ds h Q => ∃ i, ds = [.int i] ∧ i.natAbs.log2 < 1920 ∧ Q (.str (toString i)) h
theorem c_strI : C3 X (.type "str") cStrI := by
  intro pins s σ H xs us Q I rx h
  obtain ⟨ds, w, Q3, e, r, ra, ⟨i, rfl, hz, q⟩, out⟩ := h
  subst e
  obtain ⟨x, rfl, rp⟩ := ra.one
  cases rp
  exact call_str_int pins s σ w.H _ us Q I rx ⟨i, rfl, hz, out _ w _ q r (Ext.refl w) (.str _)⟩
/-- all, any of a list of truths -/
def cAll : DC := fun ds h Q => ∃ (d : Dv) (bs : List Bool), ds = [d] ∧ lstOf h d = some (bs.map Dv.bl) ∧ Q (.bl (bs.all (fun b => b))) h
def cAny : DC := fun ds h Q => ∃ (d : Dv) (bs : List Bool), ds = [d] ∧ lstOf h d = some (bs.map Dv.bl) ∧ Q (.bl (bs.any (fun b => b))) h
theorem bls_of {K : PySem.W.Frag} {w : Wd} : ∀ {bs : List Bool} {xs : List V}, RpAll K w (bs.map Dv.bl) xs → xs = bs.map V.bl
  | [], _, h => by cases h; rfl
  | b :: bs, _, h => by
    cases h with
    | cons a t => cases a; rw [bls_of t]; rfl
theorem c_all (hc : X.calm = true) : C3 X (.builtin "all") cAll := by
  intro pins s σ H xs us Q I rx h
  obtain ⟨ds, w, Q3, e, r, ra, ⟨d, bs, rfl, hs, q⟩, out⟩ := h
  subst e
  obtain ⟨x, rfl, rp⟩ := ra.one
  obtain ⟨p, ys, rfl, hq, rb⟩ := lstOf_at r rp hs
  rw [bls_of rb] at hq
  exact cr_all hc pins s σ w.H _ us Q I rx ⟨p, bs, rfl, hq, out _ w _ q r (Ext.refl w) (.bl _)⟩
theorem c_any (hc : X.calm = true) : C3 X (.builtin "any") cAny := by
  intro pins s σ H xs us Q I rx h
  obtain ⟨ds, w, Q3, e, r, ra, ⟨d, bs, rfl, hs, q⟩, out⟩ := h
  subst e
  obtain ⟨x, rfl, rp⟩ := ra.one
  obtain ⟨p, ys, rfl, hq, rb⟩ := lstOf_at r rp hs
  rw [bls_of rb] at hq
  exact cr_any hc pins s σ w.H _ us Q I rx ⟨p, bs, rfl, hq, out _ w _ q r (Ext.refl w) (.bl _)⟩
/-- isinstance of a built-in class -/
def tyOf (h : Mh) : Dv → Option String
  | .non => some "NoneType"
  | .bl _ => some "bool"
  | .int _ => some "int"
  | .str _ => some "str"
  | .tup _ => some "tuple"
  | .lst _ => some "list"
  | .ref a => match h a with | some (.lst _) => some "list" | _ => none
  | _ => none
@[simp] def isB (t n : String) : Bool := t == n || t == "bool" && n == "int"
theorem kit_isB {K : PySem.W.Frag} {t n : String} (ht : t ∈ ["NoneType", "bool", "int", "str", "tuple", "list"]) (hn : n ∈ ["bool", "int", "str", "tuple", "list"]) : PySem.W.kitOne K (.type t) (.type n) = some (isB t n) := by
  have all : ∀ t ∈ ["NoneType", "bool", "int", "str", "tuple", "list"], ∀ n ∈ ["bool", "int", "str", "tuple", "list"], kitB t n = some (isB t n) := by decide +kernel
  exact kit_ty (all t ht n hn)
def cIsi : DC := fun ds h Q => ∃ d n t, ds = [d, .ty n] ∧ n ∈ ["bool", "int", "str", "tuple", "list"] ∧ tyOf h d = some t ∧ Q (.bl (isB t n)) h
theorem tyX_of {K : PySem.W.Frag} {w : Wd} (r : Rel K w) {d : Dv} {v : V} {t : String} (p : Rp K w d v) (e : tyOf w.h d = some t) : TyX K w.H v (.type t) ∧ t ∈ ["NoneType", "bool", "int", "str", "tuple", "list"] := by
  cases p with
  | non => cases e; exact ⟨.base .non, by simp⟩
  | bl b => cases e; exact ⟨.base (.bl b), by simp⟩
  | int i => cases e; exact ⟨.base (.int i), by simp⟩
  | str z => cases e; exact ⟨.base (.str z), by simp⟩
  | ty n => cases e
  | obj a => cases e
  | tup ta ra =>
    cases e
    refine ⟨?_, by simp⟩
    rcases r.sqT ta with (z | ⟨o, z⟩) | ⟨o, its, n, z, c, _⟩
    · exact .base (.tup z)
    · exact .fTuple z
    · exact .kTuple z c
  | lst ta ra =>
    cases e
    refine ⟨?_, by simp⟩
    rcases r.sqL ta with (z | ⟨o, z⟩) | ⟨o, its, n, z, c, _⟩
    · exact .base (.lst z)
    · exact .base (.frz z)
    · exact .kList z c
  | ref a =>
    simp only [tyOf] at e
    split at e
    · rename_i ds h
      cases e
      obtain ⟨xs, _, hH, _⟩ := r.mlst h
      exact ⟨.base (.lst hH), by simp⟩
    · cases e
theorem c_isi : C3 X (.builtin "isinstance") cIsi := by
  intro pins s σ H xs us Q I rx h
  obtain ⟨ds, w, Q3, e, r, ra, ⟨d, n, t, rfl, hn, ht, q⟩, out⟩ := h
  subst e
  obtain ⟨x, y, rfl, rp, rq⟩ := ra.two
  cases rq
  obtain ⟨ty, hm⟩ := tyX_of r rp ht
  exact call_isi pins s σ w.H _ us Q I rx ⟨x, .ty n, _, _, _, rfl, .ty n, ty, kit_isB hm hn, out _ w _ q r (Ext.refl w) (.bl _)⟩
mutual
theorem hasDict_py : ∀ d : Dv, (py d).hasDict = false
  | .non | .bl _ | .int _ | .str _ | .ref _ | .obj _ | .ty _ => by simp [py, PyData.hasDict]
  | .tup ds => by simp [py, PyData.hasDict, hasDict_pys ds]
  | .lst ds => by simp [py, PyData.hasDict, hasDict_pys ds]
theorem hasDict_pys : ∀ ds : List Dv, PyData.hasDictAll (pys ds) = false
  | [] => by simp [pys, PyData.hasDictAll]
  | d :: ds => by simp [pys, PyData.hasDictAll, hasDict_py d, hasDict_pys ds]
end
/-- repr of data -/
def shw (d : Dv) : Str := (py d).shown
def okR (d : Dv) : Prop := dat d = true ∧ dep d ≤ 60 ∧ (py d).showable = true ∧ (shw d).length ≤ sizeLine
@[simp] def cRepr : DC := fun ds h Q => ∃ d, ds = [d] ∧ okR d ∧ Q (.str (shw d)) h
theorem c_repr (hg : X.A.guards = some []) (hu : X.A.units + 64 < cLine) : C3 X (.builtin "repr") cRepr := by
  intro pins s σ H xs us Q I rx h
  obtain ⟨ds, w, Q3, e, r, ra, ⟨d, rfl, ⟨hd, hp, hs, hz⟩, q⟩, out⟩ := h
  subst e
  obtain ⟨x, rfl, rp⟩ := ra.one
  obtain ⟨u, rfl, ru⟩ := vals1 rx
  obtain ⟨as, rd⟩ := reads_of I rfl r rp ru hd
  have fin : ∀ t k, (∀ h', (∀ b o, s.heap.get? b = some o → h'.get? b = some o) → EP X pins σ Q (.str (shw d) t) { s with heap := h', toks := k }) := fun t k h' kp =>
    ⟨.str (shw d), w.H, I.kept kp, ⟨t, rfl⟩, out _ w _ q r (Ext.refl w) (.str _)⟩
  have nodict : (py d).hasDict = true → sysModules ∉ as := PyData.noDict_hsm (hasDict_py d)
  cases rp with
  | non => cases ru; exact P.repr_of_none (fin _ _ s.heap fun _ _ e => e)
  | bl b => cases ru; exact P.repr_of_bool (fin _ _ s.heap fun _ _ e => e)
  | int i =>
    obtain ⟨t, rfl⟩ := ru
    exact P.repr_of_int (of_decide_eq_true (by simpa [py, PyData.showable] using hs)) (fin _ _ s.heap fun _ _ e => e)
  | str z =>
    obtain ⟨t, rfl⟩ := ru
    exact P.repr_of_str (fin _ _ s.heap fun _ _ e => e) (by simpa [shw, py, PyData.shown] using hz)
  | tup ta ra =>
    cases ru
    exact repr_of_reads' rd hs nodict hg (by rw [depth_py]; omega) (fun _ _ e => e) (fun h' t k kp => fin t k h' kp) hz
  | lst ta ra =>
    cases ru
    exact repr_of_reads' rd hs nodict hg (by rw [depth_py]; omega) (fun _ _ e => e) (fun h' t k kp => fin t k h' kp) hz
  | _ => simp [dat] at hd
end
end G3

namespace G3
open PySem L2

section
variable {X : Cx}
/-! ### methods of built-in types -/
@[simp] def isTyM (T : String) (h : Mh) (d : Dv) : Prop := (T = "str" ∧ ∃ z, d = .str z) ∨ (T = "list" ∧ ∃ ds, lstOf h d = some ds)
theorem tyV_of {K : PySem.W.Frag} {w : Wd} {T : String} {d : Dv} {v : V} (r : Rel K w) (p : Rp K w d v) (e : isTyM T w.h d) : tyV K T v w.H := by
  rcases e with ⟨rfl, z, rfl⟩ | ⟨rfl, ds, h⟩
  · cases p; rfl
  · obtain ⟨a, xs, rfl, sq, _⟩ := lstOf_at r p h
    exact .inl ⟨rfl, xs, sq⟩
def M3 (X : Cx) (id : String) (r : DM) : Prop := MtR X id (loM X.K r)
variable {o e : Expr} {es : List Expr} {go ge : GE} {gs : GA} {name : Str} {apos cpos pos : Pos} {T id : String} {r : DM}
@[simp] def gBM (T : String) (r : DM) (go : GE) (gs : GA) : GE := fun ρ h Q => go ρ h fun d h1 => isTyM T h1 d ∧ gs ρ h1 fun ds h2 => r d ds h2 Q
theorem e_bm (pa : PlainAttrs T) (slot : Slot T name id) (hty : typeOf (.builtin id) = pure (.type "method_descriptor")) (hm : M3 X id r) (ho : E3 X o go) (ha : A3 X (e :: es) gs)
    (hbase : attributeBase o name X.env (eval o X.env) = eval o X.env := by rfl)
    (hfew : ((backTo cpos (starEach (e :: es) X.env)).all (fun x => !x.1) && (backToKw cpos (keywordEach [] X.env)).all (fun x => x.1.isSome)
      && decide ((e :: es).length + ([] : List Keyword).length + (if ([] : List Keyword).isEmpty then 0 else 1) < 30)) = true := by rfl)
    (hline : (apos.endLine == cpos.line) = true := by rfl) (hs : starEach (e :: es) X.env = (false, eval e X.env) :: starEach es X.env := by rfl) (hplain : (backTo cpos (starEach es X.env)).any (·.1) = false := by rfl) :
    E3 X (.Call (.Attribute o name apos) (e :: es) [] cpos) (gBM T r go gs) := PEimp (pe_bm pa slot hty hm ho ha hbase hfew hline hs hplain) fun σ H Q ⟨ρ, w, Q3, e, gd, q, out⟩ => by
  subst e
  exact ⟨ρ, w, _, rfl, gd, q, fun d1 w1 v1 ⟨t1, q1⟩ r1 e1 p1 => ⟨tyV_of r1 p1 t1, ρ, w1, _, rfl, gd.ext r1 e1, q1, fun ds w2 vs q2 r2 e2 p2 => ⟨d1, ds, w2, Q3, rfl, r2, p1.ext e2, p2, q2, out.ext (e1.trans e2)⟩⟩⟩
@[simp] def gBM0 (T : String) (r : DM) (go : GE) : GE := fun ρ h Q => go ρ h fun d h1 => isTyM T h1 d ∧ r d [] h1 Q
theorem e_bm0 (pa : PlainAttrs T) (slot : Slot T name id) (hty : typeOf (.builtin id) = pure (.type "method_descriptor")) (hm : M3 X id r) (ho : E3 X o go)
    (hbase : attributeBase o name X.env (eval o X.env) = eval o X.env := by rfl) (hline : (apos.endLine == cpos.line) = true := by rfl) : E3 X (.Call (.Attribute o name apos) [] [] cpos) (gBM0 T r go) := PEimp (pe_bm0 pa slot hty hm ho hbase hline) fun σ H Q ⟨ρ, w, Q3, e, gd, q, out⟩ => by
  subst e
  exact ⟨ρ, w, _, rfl, gd, q, fun d1 w1 v1 ⟨t1, q1⟩ r1 e1 p1 => ⟨tyV_of r1 p1 t1, d1, [], w1, Q3, rfl, r1, p1, .nil, q1, out.ext e1⟩⟩
/-- xs.append(y) -/
def mAppend : DM := fun d ds h Q => ∃ a xs y, d = .ref a ∧ ds = [y] ∧ h a = some (.lst xs) ∧ xs.length < sizeLine ∧ Q .non (mput h a (.lst (xs ++ [y])))
theorem m_append : M3 X "list.append" mAppend := by
  intro pins s σ H x xs v us Q I rx rs h
  obtain ⟨d, ds, w, Q3, e, r, p, pa, ⟨a, zs, y, rfl, rfl, hh, hz, q⟩, out⟩ := h
  subst e
  cases p
  obtain ⟨t, rfl, pt⟩ := pa.one
  obtain ⟨ws, hG, hH, ra⟩ := r.mlst hh
  refine mt_append pins s σ w.H _ _ v us Q I rx rs ⟨a, ws, t, rfl, rfl, hH, by rw [← ra.length]; exact hz, ?_⟩
  obtain ⟨r2, e2⟩ := put_lst (p := a) r (ra.append (.cons pt .nil)) (.inr ⟨_, hh, id⟩)
  exact out.go r2 e2 .non q
/-- xs.pop() -/
def mPop : DM := fun d ds h Q => ∃ a xs y, d = .ref a ∧ ds = [] ∧ h a = some (.lst xs) ∧ xs[xs.length - 1]? = some y ∧ Q y (mput h a (.lst xs.dropLast))
theorem RpAll.dropLast {K : PySem.W.Frag} {w : Wd} {ds : List Dv} {xs : List V} (r : RpAll K w ds xs) : RpAll K w ds.dropLast xs.dropLast := by
  rw [List.dropLast_eq_take, List.dropLast_eq_take, r.length]
  exact r.take _
theorem m_pop : M3 X "list.pop" mPop := by
  intro pins s σ H x xs v us Q I rx rs h
  obtain ⟨d, ds, w, Q3, e, r, p, pa, ⟨a, zs, y, rfl, rfl, hh, hy, q⟩, out⟩ := h
  subst e
  cases p
  cases pa
  obtain ⟨ws, hG, hH, ra⟩ := r.mlst hh
  rw [ra.length] at hy
  obtain ⟨t, ht, rt⟩ := ra.get' hy
  refine mt_pop pins s σ w.H _ _ v us Q I rx rs ⟨a, ws, t, rfl, rfl, hH, ht, ?_⟩
  obtain ⟨r2, e2⟩ := put_lst (p := a) r ra.dropLast (.inr ⟨_, hh, id⟩)
  exact out.go r2 e2 (rt.ext e2) q
/-- xs.pop(i) -/
def mPopAt : DM := fun d ds h Q => ∃ a xs i k y, d = .ref a ∧ ds = [.int i] ∧ h a = some (.lst xs) ∧ -(2 ^ 63) ≤ i ∧ i < 2 ^ 63 ∧ seqIndex? i xs.length = some k ∧ xs[k]? = some y ∧ Q y (mput h a (.lst (xs.eraseIdx k)))
theorem RpAll.erase {K : PySem.W.Frag} {w : Wd} : ∀ {ds : List Dv} {xs : List V} (i : Nat), RpAll K w ds xs → RpAll K w (ds.eraseIdx i) (xs.eraseIdx i)
  | _, _, _, .nil => .nil
  | _, _, 0, .cons _ b => b
  | _, _, i + 1, .cons a b => .cons a (RpAll.erase i b)
theorem m_popAt : M3 X "list.pop" mPopAt := by
  intro pins s σ H x xs v us Q I rx rs h
  obtain ⟨d, ds, w, Q3, e, r, p, pa, ⟨a, zs, i, k, y, rfl, rfl, hh, h1, h2, hk, hy, q⟩, out⟩ := h
  subst e
  cases p
  obtain ⟨t, rfl, pt⟩ := pa.one
  cases pt
  obtain ⟨ws, hG, hH, ra⟩ := r.mlst hh
  obtain ⟨t, ht, rt⟩ := ra.get' hy
  refine mt_popAt pins s σ w.H _ _ v us Q I rx rs ⟨a, ws, i, k, t, rfl, rfl, hH, h1, h2, by rw [← ra.length]; exact hk, ht, ?_⟩
  obtain ⟨r2, e2⟩ := put_lst (p := a) r (ra.erase k) (.inr ⟨_, hh, id⟩)
  exact out.go r2 e2 (rt.ext e2) q
theorem strs_of {K : PySem.W.Frag} {w : Wd} : ∀ {ys : List Str} {xs : List V}, RpAll K w (ys.map Dv.str) xs → xs = ys.map V.str
  | [], _, h => by cases h; rfl
  | y :: ys, _, h => by
    cases h with
    | cons a t => cases a; rw [strs_of t]; rfl
theorem of_strs {K : PySem.W.Frag} {w : Wd} : ∀ (ys : List Str), RpAll K w (ys.map Dv.str) (ys.map V.str)
  | [] => .nil
  | y :: ys => .cons (.str y) (of_strs ys)
/-- sep.join(texts) -/
@[simp] def mJoin : DM := fun d ds h Q => ∃ (a : Str) (s : Dv) (ys : List Str), d = .str a ∧ ds = [s] ∧ seqOf h s = some (ys.map Dv.str) ∧ (ys.map (·.length)).sum + ys.length * a.length ≤ 16777216 ∧ Q (.str (Txt.join a ys)) h
theorem m_join : M3 X "str.join" mJoin := by
  intro pins s σ H x xs v us Q I rx rs h
  obtain ⟨d, ds, w, Q3, e, r, p, pa, ⟨a, t, ys, rfl, rfl, hs, hz, q⟩, out⟩ := h
  subst e
  cases p
  obtain ⟨t, rfl, pt⟩ := pa.one
  obtain ⟨l, zs, rfl, hq, ra⟩ := seqOf_at r pt hs
  rw [strs_of ra] at hq
  exact mt_join pins s σ w.H _ _ v us Q I rx rs ⟨a, l, ys, rfl, rfl, hq, hz, out.go r (Ext.refl w) (.str _) q⟩
/-- text.split(sep) -/
@[simp] def mSplit : DM := fun d ds h Q => ∃ a b, d = .str a ∧ ds = [.str b] ∧ (b.length == 0) = false ∧ a.length + 2 ≤ sizeLine ∧ Q (.lst ((Txt.split a b).map Dv.str)) h
theorem m_split : M3 X "str.split" mSplit := by
  intro pins s σ H x xs v us Q I rx rs h
  obtain ⟨d, ds, w, Q3, e, r, p, pa, ⟨a, b, rfl, rfl, hb, hz, q⟩, out⟩ := h
  subst e
  cases p
  obtain ⟨t, rfl, pt⟩ := pa.one
  cases pt
  refine mt_split pins s σ w.H _ _ v us Q I rx rs ⟨a, b, rfl, rfl, hb, hz, fun l nl => ?_⟩
  obtain ⟨r2, e2, p2⟩ := new_lst (p := l) r (of_strs (Txt.split a b)) nl
  exact out.go r2 e2 p2 q

/-! ### statements -/
variable {st : Stmt} {rest : List Stmt} {g g1 g2 : GS}
@[simp] def gNext : GS := fun E ρ h => E.nx ρ h
@[simp] def gSeq (g1 g2 : GS) : GS := fun E ρ h => g1 { E with nx := g2 E } ρ h
theorem b_nil : B3 X [] gNext := PSsimp pss_nil fun D σ H ⟨ρ, w, E, e, gd, q, out⟩ => by
  subst e
  exact out.nx ρ w σ q gd (Ext.refl w)
theorem b_cons (h1 : S3 X st g1) (h2 : B3 X rest g2) : B3 X (st :: rest) (gSeq g1 g2) := PSsimp (pss_cons h1 h2) fun D σ H ⟨ρ, w, E, e, gd, q, out⟩ => by
  subst e
  exact ⟨ρ, w, { E with nx := g2 E }, rfl, gd, q, ⟨fun ρ1 w1 σ1 q1 gd1 e1 => ⟨ρ1, w1, E, rfl, gd1, q1, out.ext e1⟩, out.rt, out.bk, out.ct⟩⟩
theorem b_one (h1 : S3 X st g) : B3 X [st] g := pss_one h1
theorem s_pass : S3 X (.Pass pos) gNext := PSimp ps_pass fun D σ H ⟨ρ, w, E, e, gd, q, out⟩ => by
  subst e
  exact out.nx ρ w σ q gd (Ext.refl w)
@[simp] def gBreak : GS := fun E ρ h => E.bk ρ h
@[simp] def gCont : GS := fun E ρ h => E.ct ρ h
theorem s_break : S3 X (.Break pos) gBreak := PSimp ps_break fun D σ H ⟨ρ, w, E, e, gd, q, out⟩ => by
  subst e
  exact out.bk ρ w σ q gd (Ext.refl w)
theorem s_cont : S3 X (.Continue pos) gCont := PSimp ps_continue fun D σ H ⟨ρ, w, E, e, gd, q, out⟩ => by
  subst e
  exact out.ct ρ w σ q gd (Ext.refl w)
@[simp] def gDrop (g : GE) : GS := fun E ρ h => g ρ h fun _ h1 => E.nx ρ h1
theorem s_expr (he : E3 X e ge) (hs : swapsWith e none pos.line X.env = pure false := by rfl) : S3 X (.Expr e pos) (gDrop ge) := PSimp (ps_expr he hs) fun D σ H ⟨ρ, w, E, e, gd, q, out⟩ => by
  subst e
  exact ⟨ρ, w, _, rfl, gd, q, fun d w1 v q1 r1 e1 p1 => out.nx ρ w1 σ q1 (gd.ext r1 e1) e1⟩
@[simp] def gRet (g : GE) : GS := fun E ρ h => g ρ h E.rt
theorem s_ret (he : E3 X e ge) : S3 X (.Return (some e) pos) (gRet ge) := PSimp (ps_ret he) fun D σ H ⟨ρ, w, E, e, gd, q, out⟩ => by
  subst e
  exact ⟨ρ, w, _, rfl, gd, q, out.rt⟩
@[simp] def gRetN : GS := fun E _ h => E.rt .non h
theorem s_retN : S3 X (.Return none pos) gRetN := PSimp ps_retN fun D σ H ⟨ρ, w, E, e, gd, q, out⟩ => by
  subst e
  exact out.rt.go gd.rel (Ext.refl w) .non q
@[simp] def gIfS (c : GT) (g1 g2 : GS) : GS := fun E ρ h => c ρ h fun b h1 => if b = true then g1 E ρ h1 else g2 E ρ h1
theorem s_if {c : Expr} {a b : List Stmt} {gc : GT} (hc : T3 X c gc) (ha : B3 X a g1) (hb : B3 X b g2) : S3 X (.If c a b pos) (gIfS gc g1 g2) := PSimp (ps_if hc ha hb) fun D σ H ⟨ρ, w, E, e, gd, q, out⟩ => by
  subst e
  refine ⟨ρ, w, _, rfl, gd, q, fun k w1 q1 r1 e1 => ?_⟩
  cases k with
  | true => exact ⟨ρ, w1, E, rfl, gd.ext r1 e1, q1, out.ext e1⟩
  | false => exact ⟨ρ, w1, E, rfl, gd.ext r1 e1, q1, out.ext e1⟩
/-- name = e -/
@[simp] def gSet (i : Nat) (g : GE) : GS := fun E ρ h => g ρ h fun d h1 => E.nx (ρ.set i (some d)) h1
theorem lo_set {K : PySem.W.Frag} {i : Nat} {t : TE} (it : ∀ σ H Q, lo K ge σ H Q → t σ H Q) {D : Ends} {σ : St} {H : Hp} (h : loS K (gSet i ge) D σ H) : tAsg t (gName i) D σ H := by
  obtain ⟨ρ, w, E, e, gd, q, out⟩ := h
  subst e
  exact it _ _ _ ⟨ρ, w, _, rfl, gd, q, fun d w1 v q1 r1 e1 p1 => out.nx _ w1 _ q1 ((gd.ext r1 e1).set p1 i) e1⟩
theorem s_set (i : Nat) {x : Str} {pos' : Pos} (he : E3 X e ge) (hN : X.N.Nodup) (hi : X.N[i]? = some x := by rfl) (hx : Loc X.env.scope x := by first | exact Or.inl rfl | exact Or.inr rfl) (hs : swapsWith e (some (.Name x pos')) pos.line X.env = pure false := by rfl)
    (hf : X.fn x = true ∨ X.env.scope.names.lookup x = some .local := by first | exact .inl rfl | exact .inr rfl | assumption) : S3 X (.Assign [.Name x pos'] e pos) (gSet i ge) := PSimp (ps_set hN hi hx he hs hf) fun _ _ _ h => lo_set (fun _ _ _ z => z) h
/-- name op= e -/
@[simp] def gAug (i : Nat) (r : D2) (g : GE) : GS := fun E ρ h => ∃ x, slot ρ i = some x ∧ g ρ h fun y h1 => r x y h1 fun z h2 => E.nx (ρ.set i (some z)) h2
theorem s_aug (i : Nat) {x : Str} {op : Operator} {r : D2} {pos' : Pos} (he : E3 X e ge) (ho : OpR X (inplaceOp op) (lo2 X.K r)) (hN : X.N.Nodup) (hi : X.N[i]? = some x := by rfl) (hx : Loc X.env.scope x := by first | exact Or.inl rfl | exact Or.inr rfl)
    (hf : X.fn x = true ∨ X.env.scope.names.lookup x = some .local := by first | exact .inl rfl | exact .inr rfl | assumption) : S3 X (.AugAssign (.Name x pos') op e pos) (gAug i r ge) :=
  PSimp (ps_aug hN hi hx he (fun pins s σ H x y v u Q I r1 r2 q => ho pins s σ H x y v u Q I r1 r2 q) hf) fun D σ H ⟨ρ, w, E, e, gd, ⟨x, hs, q⟩, out⟩ => by
  subst e
  obtain ⟨v, h1, h2⟩ := gd.at_ i x (slot_get hs)
  exact ⟨v, h1, ρ, w, _, rfl, gd, q, fun d w1 v1 q1 r1 e1 p1 => ⟨x, d, w1, _, rfl, r1, h2.ext e1, p1, q1, fun z w2 v2 q2 r2 e2 p2 => out.nx _ w2 _ q2 (((gd.ext r1 e1).ext r2 e2).set p2 i) (e1.trans e2)⟩⟩

/-! ### targets -/
abbrev GG := Dv → Sl → Mh → (Sl → Mh → Prop) → Prop
abbrev GGs := List Dv → Sl → Mh → (Sl → Mh → Prop) → Prop
def OutG (K : PySem.W.Frag) (w : Wd) (vs : List Nat) (σ0 : St) (Q3 : Sl → Mh → Prop) (Q : St → Hp → Prop) : Prop := ∀ ρ w' σ, Q3 ρ w'.h → Good K ρ w' σ → Ext w w' → wipe σ vs = wipe σ0 vs → Q σ w'.H
def loG (K : PySem.W.Frag) (vs : List Nat) (g : GG) : TG := fun v σ H Q => ∃ d ρ w Q3, w.H = H ∧ Good K ρ w σ ∧ Rp K w d v ∧ g d ρ w.h Q3 ∧ OutG K w vs σ Q3 Q
def loGs (K : PySem.W.Frag) (vs : List Nat) (g : GGs) : TGs := fun xs σ H Q => ∃ ds ρ w Q3, w.H = H ∧ Good K ρ w σ ∧ RpAll K w ds xs ∧ g ds ρ w.h Q3 ∧ OutG K w vs σ Q3 Q
def G3t (X : Cx) (tg : Expr) (vs : List Nat) (g : GG) : Prop := PG X tg (loG X.K vs g)
def G3ts (X : Cx) (tgs : List Expr) (vs : List Nat) (g : GGs) : Prop := PGs X tgs (loGs X.K vs g)
theorem PGimp {tg : Expr} {t t' : TG} (h : PG X tg t) (i : ∀ v σ H Q, t' v σ H Q → t v σ H Q) : PG X tg t' := ⟨fun pins s σ H v u Q I r q => h.run pins s σ H v u Q I r (i _ _ _ _ q)⟩
theorem PGsimp {tg : List Expr} {t t' : TGs} (h : PGs X tg t) (i : ∀ v σ H Q, t' v σ H Q → t v σ H Q) : PGs X tg t' := ⟨fun pins s σ H v u Q I r q => h.run pins s σ H v u Q I r (i _ _ _ _ q)⟩
theorem wipe_comm (σ : St) (i : Nat) (a : Option V) : ∀ vs : List Nat, i ∉ vs → wipe (σ.set i a) vs = (wipe σ vs).set i a
  | [], _ => rfl
  | v :: vs, h => by
    have h1 : i ≠ v := fun e => h (by rw [e]; exact List.mem_cons_self)
    have h2 : i ∉ vs := fun e => h (List.mem_cons_of_mem _ e)
    show (wipe (σ.set i a) vs).set v none = ((wipe σ vs).set v none).set i a
    rw [wipe_comm σ i a vs h2, List.set_comm _ _ h1]
theorem wipe_set (σ : St) (i : Nat) (a : Option V) : ∀ vs : List Nat, i ∈ vs → wipe (σ.set i a) vs = wipe σ vs
  | [], h => by cases h
  | v :: vs, h => by
    show (wipe (σ.set i a) vs).set v none = (wipe σ vs).set v none
    by_cases hm : i ∈ vs
    · rw [wipe_set σ i a vs hm]
    · have e : i = v := by
        rcases List.mem_cons.mp h with e | e
        · exact e
        · exact absurd e hm
      rw [wipe_comm σ i a vs hm, e, List.set_set]
@[simp] def ggName (i : Nat) : GG := fun d ρ h Q => Q (ρ.set i (some d)) h
theorem g_name (vs : List Nat) (i : Nat) {x : Str} (hN : X.N.Nodup) (hm : i ∈ vs := by decide) (hi : X.N[i]? = some x := by rfl) (hx : Loc X.env.scope x := by first | exact Or.inl rfl | exact Or.inr rfl) (hf : X.fn x = true ∨ X.env.scope.names.lookup x = some .local := by first | exact .inl rfl | exact .inr rfl | assumption) :
    G3t X (.Name x pos) vs (ggName i) := PGimp (pg_name hN hi hx hf) fun v σ H Q ⟨d, ρ, w, Q3, e, gd, p, q, out⟩ => by
  subst e
  exact out _ w _ q (gd.set p i) (Ext.refl w) (wipe_set σ i (some v) vs hm)
@[simp] def ggNil : GGs := fun ds ρ h Q => ds = [] ∧ Q ρ h
def ggCons (g : GG) (r : GGs) : GGs := fun ds ρ h Q => ∃ d rest, ds = d :: rest ∧ g d ρ h fun ρ1 h1 => r rest ρ1 h1 Q
theorem gs_nil (vs : List Nat) : G3ts X [] vs ggNil := PGsimp pgs_nil fun v σ H Q ⟨ds, ρ, w, Q3, e, gd, p, ⟨e2, q⟩, out⟩ => by
  subst e e2
  cases p
  exact ⟨rfl, out ρ w σ q gd (Ext.refl w) rfl⟩
theorem gs_cons {vs : List Nat} {gg : GG} {ggs : GGs} (h1 : G3t X e vs gg) (h2 : G3ts X es vs ggs)
    (hs : (assignEach (e :: es) X.env).map (·.2) = assign e X.env :: (assignEach es X.env).map (·.2) := by rfl) : G3ts X (e :: es) vs (ggCons gg ggs) := PGsimp (pgs_cons h1 h2 hs) fun v σ H Q ⟨ds, ρ, w, Q3, e, gd, p, ⟨d, r, e2, q⟩, out⟩ => by
  subst e e2
  cases p with
  | cons pa pb => exact ⟨_, _, rfl, d, ρ, w, _, rfl, gd, pa, q, fun ρ1 w1 σ1 q1 gd1 e1 z1 => ⟨r, ρ1, w1, Q3, rfl, gd1, pb.ext e1, q1, fun ρ2 w2 σ2 q2 gd2 e2 z2 => out ρ2 w2 σ2 q2 gd2 (e1.trans e2) (z2.trans z1)⟩⟩
def gTupA (K : PySem.W.Frag) (n : Nat) (t : TGs) : TG := fun v σ H Q => L2.gTup K n t v σ H Q ∨ L2.gUnl K n t v σ H Q
theorem pg_tupA {t : TGs} {k n : Nat} (hc : X.calm = true) (h : PGs X es t) (hn : (assignEach es X.env).length = n) (hst : (assignEach es X.env).findIdx? (·.1) = none) : PG X (.Tuple es k pos) (gTupA X.K n t) :=
  ⟨fun pins s σ H v u Q I r hw => hw.elim (fun z => (pg_tup hc h hn hst).run pins s σ H v u Q I r z) fun z => (pg_unl hc h hn hst).run pins s σ H v u Q I r z⟩
def ggTup (n : Nat) (r : GGs) : GG := fun d ρ h Q => ∃ ds, seqOf h d = some ds ∧ ds.length = n ∧ r ds ρ h Q
theorem g_tup {vs : List Nat} {k : Nat} {ggs : GGs} {n : Nat} (hc : X.calm = true) (h : G3ts X es vs ggs) (hn : (assignEach es X.env).length = n := by rfl) (hst : (assignEach es X.env).findIdx? (·.1) = none := by rfl) :
    G3t X (.Tuple es k pos) vs (ggTup n ggs) := PGimp (pg_tupA hc h hn hst) fun v σ H Q ⟨d, ρ, w, Q3, e, gd, p, ⟨ds, e2, hl, q⟩, out⟩ => by
  subst e
  obtain ⟨a, xs, rfl, sq, ra⟩ := seqOf_at gd.rel p e2
  rcases sq with sq | sq
  · exact .inr ⟨_, _, rfl, sq, by rw [← ra.length]; exact hl, ds, ρ, w, Q3, rfl, gd, ra, q, out⟩
  · exact .inl ⟨_, _, rfl, sq, by rw [← ra.length]; exact hl, ds, ρ, w, Q3, rfl, gd, ra, q, out⟩
/-- target = e -/
@[simp] def gAsg (g : GE) (gg : GG) : GS := fun E ρ h => g ρ h fun d h1 => gg d ρ h1 E.nx
theorem s_asg {tg : Expr} {vs : List Nat} {gg : GG} (he : E3 X e ge) (hg : G3t X tg vs gg) (hs : swapsWithSole [tg] e pos.line X.env = pure false := by rfl) (hw : swappedStores [tg] e X.env = pure none := by rfl)
    (h1 : (assignEach [tg] X.env).map (·.2) = [assign tg X.env] := by rfl) : S3 X (.Assign [tg] e pos) (gAsg ge gg) := PSimp (ps_asg he hg hs hw h1) fun D σ H ⟨ρ, w, E, e, gd, q, out⟩ => by
  subst e
  exact ⟨ρ, w, _, rfl, gd, q, fun d w1 v q1 r1 e1 p1 => ⟨d, ρ, w1, _, rfl, gd.ext r1 e1, p1, q1, fun ρ2 w2 σ2 q2 gd2 e2 _ => out.nx ρ2 w2 σ2 q2 gd2 (e1.trans e2)⟩⟩
/-- xs[i] = e of a list -/
@[simp] def ggSub (go gi : GE) : GG := fun v ρ h Q => go ρ h fun o h1 => gi ρ h1 fun i h2 => ∃ a xs k j, o = .ref a ∧ i = .int k ∧ h2 a = some (.lst xs) ∧ ixN xs.length k = some j ∧ Q ρ (mput h2 a (.lst (xs.set j v)))
theorem g_sub {i : Expr} {gi : GE} (vs : List Nat) (ho : E3 X o go) (hi : E3 X i gi)
    (ha : ∀ v, assign (.Subscript o i pos) X.env v = (do
      let ov ← holding [v] (eval o X.env)
      let iv ← holding [v, ov] (eval i X.env)
      standAt pos
      holding [v, ov, iv] (setItem ov iv v)
      release [v, ov, iv] []) := by intro _; rfl) : G3t X (.Subscript o i pos) vs (ggSub go gi) := PGimp (pg_sub ho hi set_list ha) fun v σ H Q ⟨d, ρ, w, Q3, e, gd, p, q, out⟩ => by
  subst e
  refine ⟨ρ, w, _, rfl, gd, q, fun d1 w1 v1 q1 r1 e1 p1 => ⟨ρ, w1, _, rfl, gd.ext r1 e1, q1, fun d2 w2 v2 ⟨a, xs, k, j, ea, ei, hh, hj, q2⟩ r2 e2 p2 => ?_⟩⟩
  subst ea ei
  have p1 := p1.ext e2
  cases p1
  cases p2
  obtain ⟨ws, hG, hH, ra⟩ := r2.mlst hh
  refine ⟨a, ws, k, j, rfl, rfl, hH, by rw [← ra.length]; exact hj, ?_⟩
  obtain ⟨r3, e3⟩ := put_lst (p := a) r2 (RpAll.set ((p.ext e1).ext e2) j ra) (.inr ⟨_, hh, id⟩)
  exact out ρ _ σ q2 (((gd.ext r1 e1).ext r2 e2).ext r3 e3) ((e1.trans e2).trans e3) rfl

/-! ### what is walked -/
structure ItOk (K : PySem.W.Frag) (J : It) (ds : List Dv) (w : Wd) : Prop where
  go : ∀ i w', Ex0 w w' → Rel K w' → i < ds.length → J.go i w'.H
  yld : ∀ i w' x H'', Ex0 w w' → Rel K w' → J.yld i w'.H x H'' → ∀ d, ds[i]? = some d → ∃ w'', w''.H = H'' ∧ w''.h = w'.h ∧ Rel K w'' ∧ Ext w' w'' ∧ Rp K w'' d x
  stop : ∀ w', Ex0 w w' → Rel K w' → J.stop ds.length w'.H
abbrev GI := Sl → Mh → (List Dv → Mh → Prop) → Prop
def OutI (K : PySem.W.Frag) (w : Wd) (R3 : List Dv → Mh → Prop) (R : It → Hp → Prop) : Prop := ∀ ds w' J, R3 ds w'.h → Rel K w' → Ext w w' → ItOk K J ds w' → R J w'.H
def loI (K : PySem.W.Frag) (g : GI) : TI := fun σ H R => ∃ ρ w R3, w.H = H ∧ Good K ρ w σ ∧ g ρ w.h R3 ∧ OutI K w R3 R
def I3 (X : Cx) (tg it : Expr) (g : GI) : Prop := PI X tg it (loI X.K g)
theorem PIimp {tg e : Expr} {t t' : TI} (h : PI X tg e t) (i : ∀ σ H Q, t' σ H Q → t σ H Q) : PI X tg e t' := ⟨fun pins s σ H R I q => h.run pins s σ H R I (i _ _ _ q)⟩
theorem itOk_tup {K : PySem.W.Frag} {w : Wd} {p : Addr} {xs : List V} {ds : List Dv} (t : TupAt K w p xs) (ra : RpAll K w ds xs) (uq : ∀ w' ys, Rel K w' → TupAt K w' p xs → SqT K w'.H p ys → ys = xs) : True := trivial
/-- a list, a tuple, a text -/
def iSeq (K : PySem.W.Frag) (te : TE) : TI := fun σ H R => te σ H fun x H1 => (∃ a, x = .ref a ∧ (∃ xs, SqL K H1 a xs) ∧ R (Itl K a) H1) ∨ (∃ a, x = .ref a ∧ (∃ xs, SqT K H1 a xs) ∧ R (Itt K a) H1) ∨ ∃ z, x = .str z ∧ R (Its z) H1
theorem pi_seq {tg l : Expr} {tl : TE} (hl : PE X l tl) : PI X tg l (iSeq X.K tl) := by
  refine ⟨fun pins s σ H R I h => thn (hl.run pins s σ H _ I h) fun v s1 ⟨x, H1, I1, r1, q1⟩ => ?_⟩
  rcases q1 with ⟨a, e, ⟨xs, hq⟩, q⟩ | ⟨a, e, ⟨xs, hq⟩, q⟩ | ⟨z, e, q⟩
  · subst e
    cases r1
    obtain ⟨its, rv, pl, _⟩ := I1.list hq
    exact wpAny_pyIter_list pl.isList (pi_one (tk := s1.toks) I1 _ (turn_list a _) ⟨_, Heap.get?_push_size _ rfl, rfl, rfl⟩ q)
  · subst e
    cases r1
    obtain ⟨its, rv, pl, _⟩ := I1.tuple hq
    exact wpAny_pyIter_tuple (show s1.heap.IsTuple a its.toArray from pl) (pi_one (tk := s1.toks) I1 _ (turn_tuple a _) ⟨_, Heap.get?_push_size _ rfl, rfl, rfl⟩ q)
  · subst e
    obtain ⟨t, rfl⟩ := r1
    cases ha : z.cps.all (· < 128) with
    | false => exact wpAny_pyIter_wide ha (pi_one (tk := s1.toks) I1 _ (turn_str _ z t "str_iterator" (.inr rfl)) ⟨_, Heap.get?_push_size _ rfl, rfl, rfl⟩ q)
    | true => exact wpAny_pyIter_ascii ha (pi_one (tk := s1.toks) I1 _ (turn_str _ z t "str_ascii_iterator" (.inl rfl)) ⟨_, Heap.get?_push_size _ rfl, rfl, rfl⟩ q)
/-- the things that a walk of d meets -/
def walkOf : Dv → Option (List Dv)
  | .lst ds => some ds
  | .tup ds => some ds
  | .str z => some (z.cps.toList.map fun c => .str ⟨#[c]⟩)
  | _ => none
@[simp] def gIt (g : GE) : GI := fun ρ h R => g ρ h fun d h1 => ∃ ds, walkOf d = some ds ∧ R ds h1
theorem i_seq {tg l : Expr} {gl : GE} (hl : E3 X l gl) : I3 X tg l (gIt gl) := PIimp (pi_seq hl) fun σ H R ⟨ρ, w, R3, e, gd, q, out⟩ => by
  subst e
  refine ⟨ρ, w, _, rfl, gd, q, fun d w1 v ⟨ds, hw, q1⟩ r1 e1 p1 => ?_⟩
  cases p1 with
  | lst t ra =>
    cases hw
    refine .inl ⟨_, rfl, ⟨_, r1.sqL t⟩, out ds w1 _ q1 r1 e1 ⟨fun i w' e' r' hi => ?_, fun i w' x H'' e' r' ⟨eH, hx⟩ d hd => ?_, fun w' e' r' => ?_⟩⟩
    · exact ⟨_, _, r'.sqL (t.ext e'.fz), List.getElem?_eq_getElem (by rw [← ra.length]; exact hi)⟩
    · obtain ⟨y, hy, ry⟩ := ra.get' hd
      have e := hx _ (r'.sqL (t.ext e'.fz))
      rw [hy] at e
      cases e
      exact ⟨w', eH.symm, rfl, r', Ext.refl w', Rp.fz e'.fz ry⟩
    · exact ⟨_, r'.sqL (t.ext e'.fz), by rw [ra.length]; exact Nat.le_refl _⟩
  | tup t ra =>
    cases hw
    refine .inr (.inl ⟨_, rfl, ⟨_, r1.sqT t⟩, out ds w1 _ q1 r1 e1 ⟨fun i w' e' r' hi => ?_, fun i w' x H'' e' r' ⟨eH, hx⟩ d hd => ?_, fun w' e' r' => ?_⟩⟩)
    · exact ⟨_, _, r'.sqT (t.ext e'.fz), List.getElem?_eq_getElem (by rw [← ra.length]; exact hi)⟩
    · obtain ⟨y, hy, ry⟩ := ra.get' hd
      have e := hx _ (r'.sqT (t.ext e'.fz))
      rw [hy] at e
      cases e
      exact ⟨w', eH.symm, rfl, r', Ext.refl w', Rp.fz e'.fz ry⟩
    · exact ⟨_, r'.sqT (t.ext e'.fz), by rw [ra.length]; exact Nat.le_refl _⟩
  | str z =>
    cases hw
    refine .inr (.inr ⟨z, rfl, out _ w1 _ q1 r1 e1 ⟨fun i w' e' r' hi => ?_, fun i w' x H'' e' r' ⟨eH, c, hc, hx⟩ d hd => ?_, fun w' e' r' => ?_⟩⟩)
    · rw [List.length_map, Array.length_toList] at hi
      exact hi
    · rw [List.getElem?_map, Array.getElem?_toList, hc] at hd
      cases hd
      subst hx
      exact ⟨w', eH.symm, rfl, r', Ext.refl w', .str _⟩
    · rw [List.length_map, Array.length_toList]
      exact Nat.le_refl _
  | _ => cases hw
/-- range(n), range(a, b) -/
def rng (lo : Int) (n : Nat) : List Dv := (List.range n).map fun k => .int (lo + (k : Nat))
theorem itOk_rng {K : PySem.W.Frag} {w : Wd} (lo : Int) (n : Nat) : ItOk K (Itr lo n) (rng lo n) w := by
  refine ⟨fun i w' e' r' hi => ?_, fun i w' x H'' e' r' ⟨eH, hx⟩ d hd => ?_, fun w' e' r' => ?_⟩
  · unfold rng at hi
    rw [List.length_map, List.length_range] at hi
    exact hi
  · unfold rng at hd
    rw [List.getElem?_map] at hd
    have hi : i < n := by
      rcases Nat.lt_or_ge i n with h | h
      · exact h
      · rw [List.getElem?_eq_none (by rw [List.length_range]; exact h)] at hd
        cases hd
    rw [List.getElem?_range hi] at hd
    cases hd
    subst hx
    exact ⟨w', eH.symm, rfl, r', Ext.refl w', .int _⟩
  · unfold rng
    rw [List.length_map, List.length_range]
    exact Nat.le_refl _
@[simp] def gRng1 (gs : GA) : GI := fun ρ h R => gs ρ h fun ds h1 => ∃ j, ds = [.int j] ∧ -(2 ^ 62) ≤ j ∧ j < 2 ^ 62 ∧ R (rng 0 j.toNat) h1
theorem i_rng1 {tg a : Expr} {p : Pos} (hg : Gl X "range") (hm : X.mg "range" = none) (ha : A3 X [a] gs) (hs : starEach [a] X.env = [(false, eval a X.env)] := by rfl) : I3 X tg (.Call (.Name "range" p) [a] [] pos) (gRng1 gs) := PIimp (pi_range1 hg hm ha hs) fun σ H R ⟨ρ, w, R3, e, gd, q, out⟩ => by
  subst e
  refine ⟨ρ, w, _, rfl, gd, q, fun ds w1 vs ⟨j, e2, h1, h2, q1⟩ r1 e1 p1 => ?_⟩
  subst e2
  obtain ⟨x, e3, px⟩ := p1.one
  subst e3
  cases px
  exact ⟨j, rfl, h1, h2, out _ w1 _ q1 r1 e1 (itOk_rng 0 j.toNat)⟩
@[simp] def gRng2 (gs : GA) : GI := fun ρ h R => gs ρ h fun ds h1 => ∃ i j, ds = [.int i, .int j] ∧ (-(2 ^ 62) ≤ i ∧ i < 2 ^ 62 ∧ -(2 ^ 62) ≤ j ∧ j < 2 ^ 62) ∧ R (rng i (j - i).toNat) h1
theorem i_rng2 {tg a b : Expr} {p : Pos} (hg : Gl X "range") (hm : X.mg "range" = none) (ha : A3 X [a, b] gs) (hs : starEach [a, b] X.env = [(false, eval a X.env), (false, eval b X.env)] := by rfl) (hs2 : starEach [b] X.env = [(false, eval b X.env)] := by rfl) :
    I3 X tg (.Call (.Name "range" p) [a, b] [] pos) (gRng2 gs) := PIimp (pi_range2 hg hm ha hs hs2) fun σ H R ⟨ρ, w, R3, e, gd, q, out⟩ => by
  subst e
  refine ⟨ρ, w, _, rfl, gd, q, fun ds w1 vs ⟨i, j, e2, h1, q1⟩ r1 e1 p1 => ?_⟩
  subst e2
  obtain ⟨x, y, e3, px, pp⟩ := p1.two
  subst e3
  cases px
  cases pp
  exact ⟨i, j, rfl, h1, out _ w1 _ q1 r1 e1 (itOk_rng i (j - i).toNat)⟩

/-! ### for, while -/
@[simp] def wFor (gg : GG) (b : GS) : List Dv → En → Sl → Mh → Prop
  | [], E, ρ, h => E.nx ρ h
  | d :: ds, E, ρ, h => gg d ρ h fun ρ1 h1 => b { E with nx := wFor gg b ds E, ct := wFor gg b ds E, bk := E.nx } ρ1 h1
@[simp] def gFor (gi : GI) (gg : GG) (b : GS) : GS := fun E ρ h => gi ρ h fun ds h1 => wFor gg b ds E ρ h1
theorem s_for {tg iter : Expr} {body : List Stmt} {gi : GI} {vs : List Nat} {gg : GG} {gb : GS} (hp : PassesOwn (model X.prog X.w) X.A X.env X.xe) (hc : X.calm = true) (hi : I3 X tg iter gi) (hg : G3t X tg vs gg) (hb : B3 X body gb)
    (hs : ∀ x, foldedSetIterable iter X.env x = pure x := by intro _; rfl) : S3 X (.For tg iter body [] pos) (gFor gi gg gb) := PSimp (ps_for hp hc hi hg hb hs) fun D σ H ⟨ρ, w, E, e, gd, q, out⟩ => by
  subst e
  refine ⟨ρ, w, _, rfl, gd, q, fun ds w1 J q1 r1 e1 ok => ?_⟩
  refine ⟨fun i m σ' H' => ∃ ρ' w', w'.H = H' ∧ m = ds.length - i ∧ i ≤ ds.length ∧ Good X.K ρ' w' σ' ∧ Ext w1 w' ∧ wFor gg gb (ds.drop i) E ρ' w'.h, ⟨ds.length, ρ, w1, rfl, rfl, Nat.zero_le _, gd.ext r1 e1, Ext.refl w1, q1⟩, fun i m σ' H' hW => ?_⟩
  obtain ⟨ρ', w', eH, hm, hl, gd', e', q'⟩ := hW
  subst eH hm
  by_cases hi : i < ds.length
  · have hd : ds.drop i = ds[i] :: ds.drop (i + 1) := List.drop_eq_getElem_cons hi
    rw [hd] at q'
    refine .inr ⟨ok.go i w' e'.w gd'.rel hi, fun σ2 H2 => ∃ ρ2 w2, w2.H = H2 ∧ Good X.K ρ2 w2 σ2 ∧ Ext w1 w2 ∧ wFor gg gb (ds.drop (i + 1)) E ρ2 w2.h, fun σ2 H2 ⟨ρ2, w2, eH, g2, e2, q2⟩ => ⟨ds.length - (i + 1), by omega, ρ2, w2, eH, rfl, hi, g2, e2, q2⟩, fun x H'' hy => ?_⟩
    obtain ⟨w2, eH, hh, r2, e2, p2⟩ := ok.yld i w' x H'' e'.w gd'.rel hy ds[i] (List.getElem?_eq_getElem hi)
    subst eH
    refine ⟨ds[i], ρ', w2, fun ρ1 h1 => gb { E with nx := wFor gg gb (ds.drop (i + 1)) E, ct := wFor gg gb (ds.drop (i + 1)) E, bk := E.nx } ρ1 h1, rfl, gd'.ext r2 e2, p2, by rw [hh]; exact q', fun ρ3 w3 σ3 q3 g3 e3 _ => ⟨ρ3, w3, { E with nx := wFor gg gb (ds.drop (i + 1)) E, ct := wFor gg gb (ds.drop (i + 1)) E, bk := E.nx }, rfl, g3, q3, ⟨fun ρ4 w4 σ4 q4 g4 e4 => ⟨ρ4, w4, rfl, g4, ((e'.trans e2).trans e3).trans e4, q4⟩, out.rt.ext (((e1.trans e').trans e2).trans e3), fun ρ4 w4 σ4 q4 g4 e4 => out.nx ρ4 w4 σ4 q4 g4 ((((e1.trans e').trans e2).trans e3).trans e4), fun ρ4 w4 σ4 q4 g4 e4 => ⟨ρ4, w4, rfl, g4, ((e'.trans e2).trans e3).trans e4, q4⟩⟩⟩⟩
  · have e : i = ds.length := by omega
    subst e
    rw [List.drop_length] at q'
    exact .inl ⟨ok.stop w' e'.w gd'.rel, out.nx ρ' w' σ' q' gd' (e1.trans e')⟩
def wWh (c : GT) (b : GS) : Nat → En → Sl → Mh → Prop
  | 0, _, _, _ => False
  | n + 1, E, ρ, h => c ρ h fun k h1 => if k = true then b { E with nx := wWh c b n E, ct := wWh c b n E, bk := E.nx } ρ h1 else E.nx ρ h1
@[simp] def gWhile (c : GT) (b : GS) : GS := fun E ρ h => ∃ n, wWh c b n E ρ h
theorem s_while {c : Expr} {body : List Stmt} {gc : GT} {gb : GS} (hp : PassesOwn (model X.prog X.w) X.A X.env X.xe) (hc : T3 X c gc) (hb : B3 X body gb) : S3 X (.While c body [] pos) (gWhile gc gb) := PSimp (ps_while hp hc hb) fun D σ H ⟨ρ, w, E, e, gd, ⟨n, q⟩, out⟩ => by
  subst e
  refine ⟨fun m σ' H' => ∃ ρ' w', w'.H = H' ∧ Good X.K ρ' w' σ' ∧ Ext w w' ∧ wWh gc gb m E ρ' w'.h, ⟨n, ρ, w, rfl, gd, Ext.refl w, q⟩, fun m σ' H' ⟨ρ', w', eH, g', e', q'⟩ => ?_⟩
  subst eH
  cases m with
  | zero => exact q'.elim
  | succ m =>
    refine ⟨ρ', w', _, rfl, g', q', fun k w1 q1 r1 e1 => ?_⟩
    cases k with
    | true =>
      rw [if_pos rfl] at q1 ⊢
      exact ⟨fun σ2 H2 => ∃ ρ2 w2, w2.H = H2 ∧ Good X.K ρ2 w2 σ2 ∧ Ext w w2 ∧ wWh gc gb m E ρ2 w2.h, fun σ2 H2 h2 => ⟨m, Nat.lt_succ_self m, h2⟩, ρ', w1, _, rfl, g'.ext r1 e1, q1,
        ⟨fun ρ2 w2 σ2 q2 g2 e2 => ⟨ρ2, w2, rfl, g2, (e'.trans e1).trans e2, q2⟩, out.rt.ext (e'.trans e1), fun ρ2 w2 σ2 q2 g2 e2 => out.nx ρ2 w2 σ2 q2 g2 ((e'.trans e1).trans e2), fun ρ2 w2 σ2 q2 g2 e2 => ⟨ρ2, w2, rfl, g2, (e'.trans e1).trans e2, q2⟩⟩⟩
    | false =>
      rw [if_neg Bool.false_ne_true] at q1 ⊢
      exact out.nx ρ' w1 σ' q1 (g'.ext r1 e1) (e'.trans e1)
end
end G3

namespace G3
open PySem L2

/-! ### list comprehensions -/
@[simp] def wipD (ρ : Sl) : List Nat → Sl
  | [] => ρ
  | v :: vs => (wipD ρ vs).set v none
theorem Good.unset {K : PySem.W.Frag} {ρ : Sl} {w : Wd} {σ : St} (g : Good K ρ w σ) (i : Nat) : Good K (ρ.set i none) w (σ.set i none) := by
  refine ⟨g.rel, by rw [List.length_set, List.length_set]; exact g.len, fun j e h => ?_⟩
  by_cases n : i = j
  · subst n
    have hl : i < ρ.length := by
      have := (List.getElem?_eq_some_iff.mp h).1
      rwa [List.length_set] at this
    rw [List.getElem?_set_self hl] at h
    cases h
  · rw [List.getElem?_set_ne n] at h
    obtain ⟨y, a, b⟩ := g.at_ j e h
    exact ⟨y, by rw [List.getElem?_set_ne n]; exact a, b⟩
theorem Good.wipe {K : PySem.W.Frag} {ρ : Sl} {w : Wd} {σ : St} (g : Good K ρ w σ) : ∀ vs : List Nat, Good K (wipD ρ vs) w (wipe σ vs)
  | [] => g
  | v :: vs => (Good.wipe g vs).unset v
section
variable {X : Cx}
def T3s (X : Cx) (ifs : List Expr) (g : GT) : Prop := PTs X ifs (loT X.K g)
@[simp] def gYes : GT := fun _ h Q => Q true h
theorem ts_nil : T3s X [] gYes := ⟨fun pins s σ H Q I ⟨ρ, w, Q3, e, gd, q, out⟩ => by
  subst e
  exact pts_nil.run pins s σ w.H Q I (out true w q gd.rel (Ext.refl w))⟩
theorem ts_one {c : Expr} {g : GT} (h : T3 X c g) : T3s X [c] g := pts_one h
@[simp] def wLc (vs : List Nat) (gg : GG) (gt : GT) (ge : GE) (ρ : Sl) : List Dv → List Dv → Mh → (List Dv → Mh → Prop) → Prop
  | [], acc, h, Q => Q acc h
  | d :: ds, acc, h, Q => gg d (wipD ρ vs) h fun ρ2 h2 => gt ρ2 h2 fun b h3 => if b = true then ge ρ2 h3 fun y h4 => acc.length < sizeLine ∧ wLc vs gg gt ge ρ ds (acc ++ [y]) h4 Q else wLc vs gg gt ge ρ ds acc h3 Q
@[simp] def gLc (vs : List Nat) (gi : GI) (gg : GG) (gt : GT) (ge : GE) : GE := fun ρ h Q => gi ρ h fun ds h1 => wLc vs gg gt ge ρ ds [] h1 fun acc h2 => Q (.lst acc) h2
@[simp] def gMLc (vs : List Nat) (gi : GI) (gg : GG) (gt : GT) (ge : GE) : GE := fun ρ h Q => gi ρ h fun ds h1 => wLc vs gg gt ge ρ ds [] h1 fun acc h2 => ∀ p, h2 p = none → Q (.ref p) (mput h2 p (.lst acc))
theorem wipe_wipe (σ : St) : ∀ vs us : List Nat, (∀ i ∈ us, i ∈ vs) → wipe (wipe σ us) vs = wipe σ vs
  | vs, [], _ => rfl
  | vs, u :: us, h => by
    show wipe ((wipe σ us).set u none) vs = wipe σ vs
    rw [wipe_set _ u none vs (h u List.mem_cons_self)]
    exact wipe_wipe σ vs us fun i hi => h i (List.mem_cons_of_mem _ hi)
theorem Rel.hG {K : PySem.W.Frag} {w : Wd} (r : Rel K w) {p : Addr} (g : w.G p = none) : w.h p = none := by
  cases q : w.h p with
  | none => rfl
  | some m =>
    obtain ⟨_, z⟩ := (r.obj p m q).there
    rw [g] at z; cases z
/-- something that isn't told changes -/
theorem Rel.junkPut {K : PySem.W.Frag} {w : Wd} (r : Rel K w) {D : Addr} (g : w.G D = none) (np : ∀ ps, w.H D ≠ some (.tbl ps)) (u : HO) (hu : ∀ ps, u ≠ .tbl ps := by intro _ z; cases z) : Rel K ⟨w.h, w.G, upd w.H D u⟩ := by
  refine ⟨fun p x h => ?_, fun a m h => ?_, r.tab.at hu (fun x _ z => by rw [g] at z; cases z) (fun _ _ => rfl) (fun _ _ => rfl), r.all.at np⟩
  · have n : p ≠ D := fun z => by
      have h : w.G p = some x := h
      rw [z, g] at h; cases h
    rcases r.sub p x h with z | ⟨z1, nt, o, z⟩
    · exact .inl (by show upd w.H D u p = _; rw [upd_ne n]; exact z)
    · exact .inr ⟨z1, nt, o, by show upd w.H D u p = _; rw [upd_ne n]; exact z⟩
  · exact RpO.fz (w := w) (v := ⟨w.h, w.G, upd w.H D u⟩) (fun p x h1 h2 => ⟨h2, h1⟩) (fun _ z => z) (fun _ => upd_ne (fun z => by obtain ⟨_, q⟩ := (r.obj a m h).there; rw [z, g] at q; cases q)) (r.obj a m h)
/-- .. and is told from now on -/
theorem Rel.tell {K : PySem.W.Frag} {w : Wd} (r : Rel K w) {D : Addr} (g : w.G D = none) {u : HO} (e : w.H D = some u) (hu : ∀ ps, u ≠ .tbl ps := by intro _ z; cases z) : Rel K ⟨w.h, upd w.G D u, w.H⟩ ∧ Fzs w ⟨w.h, upd w.G D u, w.H⟩ := by
  have hD := r.hG g
  have fz : Fzs w ⟨w.h, upd w.G D u, w.H⟩ := fun p x h1 h2 => by
    have n : p ≠ D := fun z => by rw [z, g] at h2; cases h2
    exact ⟨by show upd w.G D u p = _; rw [upd_ne n]; exact h2, h1⟩
  refine ⟨⟨fun p x h => ?_, fun a m h => ?_, r.tab.on e hu (fun x _ z => by rw [g] at z; cases z) (fun _ _ => rfl) (fun _ n => upd_ne n), r.all⟩, fz⟩
  · have h : upd w.G D u p = some x := h
    by_cases n : p = D
    · subst n
      rw [upd_same] at h
      cases h
      exact .inl e
    · rw [upd_ne n] at h
      exact r.sub p x h
  · have n : a ≠ D := fun z => by
      have h : w.h a = some m := h
      rw [z, hD] at h; cases h
    exact RpO.fz fz (fun x z => by show upd w.G D u a = _; rw [upd_ne n]; exact z) (fun _ => rfl) (r.obj a m h)
theorem Rel.tellM {K : PySem.W.Frag} {w : Wd} (r : Rel K w) {D : Addr} (g : w.G D = none) {xs : List V} {ds : List Dv} (e : w.H D = some (.lst xs)) (ra : RpAll K w ds xs) : Rel K ⟨mput w.h D (.lst ds), upd w.G D (.lst xs), w.H⟩ := by
  have fz : Fzs w ⟨mput w.h D (.lst ds), upd w.G D (.lst xs), w.H⟩ := fun p x h1 h2 => by
    have n : p ≠ D := fun z => by rw [z, g] at h2; cases h2
    exact ⟨by show upd w.G D _ p = _; rw [upd_ne n]; exact h2, by show mput w.h D _ p = _; rw [mput_ne n]; exact h1⟩
  refine ⟨fun p x h => ?_, fun a m h => ?_, r.tab.on e (fun _ z => by cases z) (fun x _ z => by rw [g] at z; cases z) (fun _ n => mput_ne n) (fun _ n => upd_ne n), r.all⟩
  · have h : upd w.G D (.lst xs) p = some x := h
    by_cases n : p = D
    · subst n
      rw [upd_same] at h
      cases h
      exact .inl e
    · rw [upd_ne n] at h
      rcases r.sub p x h with z | ⟨z1, z⟩
      · exact .inl z
      · exact .inr ⟨still_of z1 (mput_ne n), z⟩
  · have h : mput w.h D (.lst ds) a = some m := h
    by_cases n : a = D
    · subst n
      rw [mput_same] at h
      cases h
      exact ⟨xs, upd_same, RpAll.fz fz ra⟩
    · rw [mput_ne n] at h
      exact RpO.fz fz (fun x z => by show upd w.G D _ a = _; rw [upd_ne n]; exact z) (fun _ => rfl) (r.obj a m h)
theorem lo_lc {K : PySem.W.Frag} {vs : List Nat} {gi : GI} {gg : GG} {gt : GT} {ge : GE} {σ : St} {H : Hp} {Q : VK} {F : List Dv → Mh → Kd → Prop} (hF : ∀ acc h Q3, F acc h Q3 → Q3 (.lst acc) h ∨ ∀ p, h p = none → Q3 (.ref p) (mput h p (.lst acc)))
    (h : lo K (fun ρ h Q => gi ρ h fun ds h1 => wLc vs gg gt ge ρ ds [] h1 fun acc h2 => F acc h2 Q) σ H Q) : tLc (loI K gi) (loG K vs gg) (loT K gt) (lo K ge) vs σ H Q := by
  obtain ⟨ρ, w, Q3, e, gd, q, out⟩ := h
  subst e
  refine ⟨ρ, w, _, rfl, gd, q, fun ds w1 J q1 r1 e1 ok D nD => ?_⟩
  have gD := (r1.hnone nD).1
  have ne : ∀ p u, w1.H p = some u → p ≠ D := fun p u h z => by rw [z, nD] at h; cases h
  have lkD : ∀ p m, w1.h p = some m → p ≠ D := fun p m e => by
    obtain ⟨u, hu⟩ := r1.there e
    exact ne p u hu
  let Inv' : Nat → Hp → Prop := fun i H' => ∃ w' acc xs, w'.H = H' ∧ w'.H D = some (.lst xs) ∧ w'.G D = none ∧ Rel K w' ∧ Ext w1 w' ∧ RpAll K w' acc xs ∧ wLc vs gg gt ge ρ (ds.drop i) acc w'.h (fun acc h2 => F acc h2 Q3)
  refine ⟨fun i n H' => n = ds.length - i ∧ i ≤ ds.length ∧ Inv' i H', ⟨ds.length, rfl, Nat.zero_le _, ⟨w1.h, w1.G, upd w1.H D (.lst [])⟩, [], [], rfl, upd_same, gD, r1.junkPut gD (fun _ z => by rw [nD] at z; cases z) _, ⟨fun p x h1 h2 => ⟨h2, h1⟩, fun p x h1 h2 _ => ⟨h1, by
    show upd w1.H D _ p = _
    rw [upd_ne (ne p x h2)]; exact h2⟩, fun p m h1 _ => ⟨h1, rfl, upd_ne (lkD p m h1)⟩⟩, .nil, q1⟩, fun i n H' ⟨hn, hl, w', acc, xs, eH, hD, gD', r', e', ra, q'⟩ => ?_⟩
  subst eH hn
  by_cases hi : i < ds.length
  · rw [List.drop_eq_getElem_cons hi] at q'
    refine .inr ⟨ok.go i w' e'.w r' hi, Inv' (i + 1), fun H' iv => ⟨ds.length - (i + 1), by omega, rfl, hi, iv⟩, fun x H'' hy => ?_⟩
    obtain ⟨w2, eH, hh, r2, e2, p2⟩ := ok.yld i w' x H'' e'.w r' hy ds[i] (List.getElem?_eq_getElem hi)
    subst eH
    have q' : gg ds[i] (wipD ρ vs) w2.h fun ρ2 h2 => gt ρ2 h2 fun b h3 => if b = true then ge ρ2 h3 fun y h4 => acc.length < sizeLine ∧ wLc vs gg gt ge ρ (ds.drop (i + 1)) (acc ++ [y]) h4 (fun acc h2 => F acc h2 Q3) else wLc vs gg gt ge ρ (ds.drop (i + 1)) acc h3 (fun acc h2 => F acc h2 Q3) := by rw [hh]; exact q'
    refine ⟨ds[i], wipD ρ vs, w2, _, rfl, (((gd.ext r1 e1).ext r' e').ext r2 e2).wipe vs, p2, q', fun ρ3 w3 σ3 q3 g3 e3 z3 => ⟨z3.trans (wipe_wipe σ vs vs fun _ z => z), ρ3, w3, _, rfl, g3, q3, fun b w4 q4 r4 e4 => ?_⟩⟩
    cases b with
    | true =>
      rw [if_pos rfl] at q4 ⊢
      refine ⟨ρ3, w4, _, rfl, g3.ext r4 e4, q4, fun y w5 v5 ⟨hz, q5⟩ r5 e5 p5 => ?_⟩
      have e25 : Ext w' w5 := ((e2.trans e3).trans e4).trans e5
      obtain ⟨g5, h5⟩ := e25.junk D _ gD' hD (fun _ z => by cases z)
      have fz : Fzs w5 ⟨w5.h, w5.G, upd w5.H D (.lst (xs ++ [v5]))⟩ := fun p x h1 h2 => ⟨h2, h1⟩
      refine ⟨xs, h5, by rw [← ra.length]; exact hz, ⟨w5.h, w5.G, upd w5.H D (.lst (xs ++ [v5]))⟩, acc ++ [y], xs ++ [v5], rfl, upd_same, g5, r5.junkPut g5 (fun _ z => by rw [h5] at z; cases z) _, ⟨fun p x h1 h2 => (e'.trans e25).fz p x h1 h2, fun p x h1 h2 nt => ?_, fun p m h1 l => let ⟨z1, z2, z3⟩ := (e'.trans e25).lk p m h1 l; ⟨z1, z2, (upd_ne (lkD p m h1)).trans z3⟩⟩, RpAll.fz fz ((ra.ext e25).append (.cons p5 .nil)), q5⟩
      obtain ⟨z1, z2⟩ := (e'.trans e25).junk p x h1 h2 nt
      exact ⟨z1, by show upd w5.H D _ p = _; rw [upd_ne (ne p x h2)]; exact z2⟩
    | false =>
      rw [if_neg Bool.false_ne_true] at q4 ⊢
      have e24 : Ext w' w4 := (e2.trans e3).trans e4
      obtain ⟨g4, h4⟩ := e24.junk D _ gD' hD (fun _ z => by cases z)
      exact ⟨w4, acc, xs, rfl, h4, g4, r4, e'.trans e24, ra.ext e24, q4⟩
  · have e : i = ds.length := by omega
    subst e
    rw [List.drop_length] at q'
    refine .inl ⟨ok.stop w' e'.w r', ?_⟩
    rcases hF acc w'.h Q3 q' with q2 | q2
    · obtain ⟨r7, fz7⟩ := r'.tell gD' hD
      refine out.go (w' := ⟨w'.h, upd w'.G D (.lst xs), w'.H⟩) r7 ⟨fun p x h1 h2 => ?_, fun p x h1 h2 nt => ?_, fun p m h1 l => ?_⟩ (.lst (.inl ⟨r'.hG gD', upd_same⟩) (RpAll.fz fz7 ra)) q2
      · obtain ⟨z1, z2⟩ := (e1.trans e').fz p x h1 h2
        exact fz7 p x z2 z1
      · obtain ⟨z1, z2⟩ := e1.junk p x h1 h2 nt
        obtain ⟨z3, z4⟩ := e'.junk p x z1 z2 nt
        exact ⟨by show upd w'.G D _ p = _; rw [upd_ne (ne p x z2)]; exact z3, z4⟩
      · obtain ⟨z1, z2, z3⟩ := e1.lk p m h1 l
        obtain ⟨y1, y2, y3⟩ := e'.lk p m z1 l
        exact ⟨y1, (upd_ne (lkD p m z1)).trans (y2.trans z2), y3.trans z3⟩
    · have r7 := r'.tellM gD' hD ra
      refine out.go (w' := ⟨mput w'.h D (.lst acc), upd w'.G D (.lst xs), w'.H⟩) r7 ⟨fun p x h1 h2 => ?_, fun p x h1 h2 nt => ?_, fun p m h1 l => ?_⟩ (.ref D) (q2 D (r'.hG gD'))
      · obtain ⟨z1, z2⟩ := (e1.trans e').fz p x h1 h2
        have n : p ≠ D := fun z => by rw [z, gD'] at z1; cases z1
        exact ⟨by show upd w'.G D _ p = _; rw [upd_ne n]; exact z1, by show mput w'.h D _ p = _; rw [mput_ne n]; exact z2⟩
      · obtain ⟨z1, z2⟩ := e1.junk p x h1 h2 nt
        obtain ⟨z3, z4⟩ := e'.junk p x z1 z2 nt
        exact ⟨by show upd w'.G D _ p = _; rw [upd_ne (ne p x z2)]; exact z3, z4⟩
      · obtain ⟨z1, z2, z3⟩ := e1.lk p m h1 l
        obtain ⟨y1, y2, y3⟩ := e'.lk p m z1 l
        exact ⟨by show mput w'.h D _ p = _; rw [mput_ne (lkD p m z1)]; exact y1, (upd_ne (lkD p m z1)).trans (y2.trans z2), y3.trans z3⟩
variable {elt tg iter : Expr} {ifs : List Expr} {scope : Scope} {pos : Pos} {gi : GI} {gg : GG} {gt : GT} {ge : GE}
theorem e_lc (own : List (Str × Nat)) (hc : X.calm = true) (hN : X.N.Nodup) (hi : I3 X tg iter gi) (ok : BlkOk X.N X.env.scope scope own)
    (hg : ∀ (s : Shared) (H : Hp) (C : Addr) (cl : List (Str × Addr)) (fp : List Addr), G3t (X.blk s H scope (compEnvC scope cl C X.env) fp) tg (own.map (·.2)) gg) (ht : ∀ (s : Shared) (H : Hp) (C : Addr) (cl : List (Str × Addr)) (fp : List Addr), T3s (X.blk s H scope (compEnvC scope cl C X.env) fp) ifs gt)
    (he : ∀ (s : Shared) (H : Hp) (C : Addr) (cl : List (Str × Addr)) (fp : List Addr), E3 (X.blk s H scope (compEnvC scope cl C X.env) fp) elt ge) (hs : ∀ x, foldedSetIterable iter X.env x = pure x := by intro _; rfl) :
    E3 X (.ListComp elt [⟨tg, iter, ifs, 0⟩] scope pos) (gLc (own.map (·.2)) gi gg gt ge) := PEimp (pe_lc (g := loG X.K (List.map (fun x : Str × Nat => x.2) own) gg) (tt := loT X.K gt) (te := lo X.K ge) hc hN hi ok hg ht he hs) fun _ _ _ h => lo_lc (F := fun acc h2 Q => Q (.lst acc) h2) (fun _ _ _ z => .inl z) h
theorem e_mlc (own : List (Str × Nat)) (hc : X.calm = true) (hN : X.N.Nodup) (hi : I3 X tg iter gi) (ok : BlkOk X.N X.env.scope scope own)
    (hg : ∀ (s : Shared) (H : Hp) (C : Addr) (cl : List (Str × Addr)) (fp : List Addr), G3t (X.blk s H scope (compEnvC scope cl C X.env) fp) tg (own.map (·.2)) gg) (ht : ∀ (s : Shared) (H : Hp) (C : Addr) (cl : List (Str × Addr)) (fp : List Addr), T3s (X.blk s H scope (compEnvC scope cl C X.env) fp) ifs gt)
    (he : ∀ (s : Shared) (H : Hp) (C : Addr) (cl : List (Str × Addr)) (fp : List Addr), E3 (X.blk s H scope (compEnvC scope cl C X.env) fp) elt ge) (hs : ∀ x, foldedSetIterable iter X.env x = pure x := by intro _; rfl) :
    E3 X (.ListComp elt [⟨tg, iter, ifs, 0⟩] scope pos) (gMLc (own.map (·.2)) gi gg gt ge) := PEimp (pe_lc (g := loG X.K (List.map (fun x : Str × Nat => x.2) own) gg) (tt := loT X.K gt) (te := lo X.K ge) hc hN hi ok hg ht he hs) fun _ _ _ h => lo_lc (F := fun acc h2 Q => ∀ p, h2 p = none → Q (.ref p) (mput h2 p (.lst acc))) (fun _ _ _ z => .inr z) h
/-- name = [..] on one line, a local -/
theorem s_setLc (i : Nat) (own : List (Str × Nat)) {y : Str} {py spos : Pos} (hc : X.calm = true) (hN : X.N.Nodup) (hy : X.N[i]? = some y) (hyl : X.env.scope.names.lookup y = some .local) (hsw : swapsWith (.ListComp elt [⟨tg, iter, ifs, 0⟩] scope pos) (some (.Name y py)) spos.line X.env = pure true)
    (hi : I3 X tg iter gi) (ok : BlkOk X.N X.env.scope scope own)
    (hg : ∀ (s : Shared) (H : Hp) (C : Addr) (cl : List (Str × Addr)) (fp : List Addr), G3t (X.blk s H scope (compEnvC scope cl C X.env) fp) tg (own.map (·.2)) gg) (ht : ∀ (s : Shared) (H : Hp) (C : Addr) (cl : List (Str × Addr)) (fp : List Addr), T3s (X.blk s H scope (compEnvC scope cl C X.env) fp) ifs gt)
    (he : ∀ (s : Shared) (H : Hp) (C : Addr) (cl : List (Str × Addr)) (fp : List Addr), E3 (X.blk s H scope (compEnvC scope cl C X.env) fp) elt ge) (hs : ∀ x, foldedSetIterable iter X.env x = pure x := by intro _; rfl) :
    S3 X (.Assign [.Name y py] (.ListComp elt [⟨tg, iter, ifs, 0⟩] scope pos) spos) (gSet i (gLc (own.map (·.2)) gi gg gt ge)) := PSimp (ps_setLc (g := loG X.K (List.map (fun x : Str × Nat => x.2) own) gg) (tt := loT X.K gt) (te := lo X.K ge) hc hN hy hyl hsw hi ok hg ht he hs) fun _ _ _ h => lo_set (fun _ _ _ h => lo_lc (F := fun acc h2 Q => Q (.lst acc) h2) (fun _ _ _ z => .inl z) h) h
theorem s_setMLc (i : Nat) (own : List (Str × Nat)) {y : Str} {py spos : Pos} (hc : X.calm = true) (hN : X.N.Nodup) (hy : X.N[i]? = some y) (hyl : X.env.scope.names.lookup y = some .local) (hsw : swapsWith (.ListComp elt [⟨tg, iter, ifs, 0⟩] scope pos) (some (.Name y py)) spos.line X.env = pure true)
    (hi : I3 X tg iter gi) (ok : BlkOk X.N X.env.scope scope own)
    (hg : ∀ (s : Shared) (H : Hp) (C : Addr) (cl : List (Str × Addr)) (fp : List Addr), G3t (X.blk s H scope (compEnvC scope cl C X.env) fp) tg (own.map (·.2)) gg) (ht : ∀ (s : Shared) (H : Hp) (C : Addr) (cl : List (Str × Addr)) (fp : List Addr), T3s (X.blk s H scope (compEnvC scope cl C X.env) fp) ifs gt)
    (he : ∀ (s : Shared) (H : Hp) (C : Addr) (cl : List (Str × Addr)) (fp : List Addr), E3 (X.blk s H scope (compEnvC scope cl C X.env) fp) elt ge) (hs : ∀ x, foldedSetIterable iter X.env x = pure x := by intro _; rfl) :
    S3 X (.Assign [.Name y py] (.ListComp elt [⟨tg, iter, ifs, 0⟩] scope pos) spos) (gSet i (gMLc (own.map (·.2)) gi gg gt ge)) := PSimp (ps_setLc (g := loG X.K (List.map (fun x : Str × Nat => x.2) own) gg) (tt := loT X.K gt) (te := lo X.K ge) hc hN hy hyl hsw hi ok hg ht he hs) fun _ _ _ h => lo_set (fun _ _ _ h => lo_lc (F := fun acc h2 Q => ∀ p, h2 p = none → Q (.ref p) (mput h2 p (.lst acc))) (fun _ _ _ z => .inr z) h) h
end
end G3

namespace G3
open PySem PyProof.Rows L2

/-! ### what a def promises, over trees; nothing raised; no repr under way at the call -/
abbrev Sp3 := List Dv → Mh → Kd → Prop
def up (K : PySem.W.Frag) (sp : Sp3) : List V → Hp → VK → Prop := fun vs H Q => ∃ ds w Q3, w.H = H ∧ Rel K w ∧ RpAll K w ds vs ∧ sp ds w.h Q3 ∧ Out K w Q3 Q
structure FnG (P : Program) (w : World) (K : PySem.W.Frag) (mg : Str → Option Value) (base : Heap) (k : Nat) (f : Addr) (fd : FuncData) (ps : List Str) (sp : Sp3) : Prop where
  len : ∀ ds h Q, sp ds h Q → ds.length = ps.length
  run : ∀ (A : Around) (outer : List Env) (s : Shared) (H : Hp) (args : Args) (us : List Value) (vs : List V) (Q : VK), Room k A → A.guards = some [] → Env0 P w K mg base A outer s H → BindsTo s fd args (ps.zip us) → Vals vs us → up K sp vs H Q →
    codeAny (model P w) A (.call (.ref f) args) (CR CX0 outer P w H s Q E0) s
section
variable {P : Program} {w : World} {K : PySem.W.Frag} {mg : Str → Option Value} {base : Heap} {j k : Nat} {f : Addr} {fd : FuncData} {ps : List Str} {sp sp' : Sp3}
theorem FnG.imp (F : FnG P w K mg base k f fd ps sp) (i : ∀ ds h Q, sp' ds h Q → sp ds h Q) : FnG P w K mg base k f fd ps sp' :=
  ⟨fun ds h Q z => F.len ds h Q (i _ _ _ z), fun A outer s H args us vs Q hr hg e0 hb hv ⟨ds, v, Q3, a, b, c, d, e⟩ => F.run A outer s H args us vs Q hr hg e0 hb hv ⟨ds, v, Q3, a, b, c, i _ _ _ d, e⟩⟩
theorem FnG.mono (F : FnG P w K mg base j f fd ps sp) (h : j ≤ k) : FnG P w K mg base k f fd ps sp :=
  ⟨F.len, fun A outer s H args us vs Q hr => F.run A outer s H args us vs Q (hr.mono h)⟩
theorem lenD {K : PySem.W.Frag} {w : Wd} {ds : List Dv} {vs : List V} (r : RpAll K w ds vs) : vs.length = ds.length := r.length.symm
@[simp] def startD (N : List Str) (ds : List Dv) : Sl := ds.map some ++ List.replicate (N.length - ds.length) none
theorem good_start {K : PySem.W.Frag} {w : Wd} {ds : List Dv} {vs : List V} (N : List Str) (r : Rel K w) (ra : RpAll K w ds vs) : Good K (startD N ds) w (L2.start N vs) := by
  refine ⟨r, ?_, fun i d h => ?_⟩
  · unfold startD L2.start
    rw [List.length_append, List.length_append, List.length_map, List.length_map, List.length_replicate, List.length_replicate, ra.length]
  · unfold startD at h
    by_cases hi : i < ds.length
    · rw [List.getElem?_append_left (by simpa using hi), List.getElem?_map] at h
      cases e : ds[i]? with
      | none => rw [e] at h; cases h
      | some d' =>
        rw [e] at h
        cases h
        obtain ⟨v, hv, rv⟩ := ra.get' e
        refine ⟨v, ?_, rv⟩
        unfold L2.start
        rw [List.getElem?_append_left (by rw [List.length_map, ← ra.length]; exact hi), List.getElem?_map, hv]
        rfl
    · rw [List.getElem?_append_right (by simpa using hi), List.getElem?_replicate] at h
      split at h <;> cases h
/-- a def by its body -/
theorem fn_g {x qual : Str} {st : Stmt} {N : List Str} (F : Fun K x qual st f fd) (S : FnScope N ps (defScope st)) (len : ∀ ds h Q, sp ds h Q → ds.length = ps.length) {g : GS}
    (hb : ∀ (cdv : Value) (A : Around) (outer : List Env) (s : Shared) (H : Hp), Room k (A.deeper (envOfC qual (defScope st) s.heap.objs.size f cdv)) → A.guards = some [] →
      B3 (cxOf CX0 P w K mg base N qual (defScope st) f cdv A outer s H E0).nox (defBody st) g)
    (hg : ∀ ds h Q, sp ds h Q → g { nx := fun _ h' => Q .non h', rt := Q } (startD N ds) h) : FnG P w K mg base (k + 1) f fd ps sp := by
  obtain ⟨oc, od, kV, doc, pm, an, cdv, ct, osl, rfl, lk, hcd⟩ := F.ex
  refine ⟨len, fun A outer s H args us vs Q hr hgd e0 hbd hv ⟨ds, v, Q3, eH, rl, ra, hsp, out⟩ => ?_⟩
  subst eH
  have hl : vs.length = ps.length := by rw [lenD ra]; exact len _ _ _ hsp
  have KX : K.In s.heap := e0.mod.kin.keeps fun b o e => (e0.bs b o e).1
  have kinds : ∀ y ∈ ps.zip us, (defScope st).names.lookup y.1 = some .local ∨ ((defScope st).names.lookup y.1 = some .cell ∧ ((cellsFrom (s.heap.objs.size + 1) (defScope st).names []).lookup y.1).isSome = true) := by
    rintro ⟨n, val⟩ hy
    rcases S.par n (List.of_mem_zip hy).1 with z | z
    · exact .inl z
    · exact .inr ⟨z, PySem.W.cellsFrom_some _ _ _ (.inl z)⟩
  refine codeAny_call_function hr.depth (KX _ _ lk) rfl S.co S.gen rfl (PySem.W.codeRec_of KX hcd) (hbd _ _ _ _ (wpAny_newFunctionEnv_cells S.kind kinds fun env he s1 xc => ?_))
  subst he
  refine ⟨(e0.mod.nolimit.keeps fun b o e => (e0.bs b o e).1).keeps xc.toInCall.keep, codeAny_func ?_⟩
  have I := inv_start (CX := CX0) (E := E0) S hr.hd e0 hl hv xc
  have body := (PSs.nox (hb cdv A outer s v.H (hr.deeper _) hgd)).run [] s1 (L2.start N vs) v.H { nx := fun _ H' => Q .non H', rt := Q } I
    ⟨startD N ds, v, { nx := fun _ h' => Q3 .non h', rt := Q3 }, rfl, good_start N rl ra, hg _ _ _ hsp, ⟨fun ρ w' σ q gd e => out.go gd.rel e .non q, out, fun _ _ _ q _ _ => q.elim, fun _ _ _ q _ _ => q.elim⟩⟩
  refine wpAny_mono body (fun fl s' hs => ?_) fun e s' hs => hs
  cases fl with
  | ret u =>
    obtain ⟨r, σ', H', J, rr, q⟩ := hs
    exact ⟨r, H', J.os, J.bare, J.base, J.hok, rr, q⟩
  | next =>
    obtain ⟨σ', H', J, q⟩ := hs
    exact ⟨V.non, H', J.os, J.bare, J.base, J.hok, rfl, q⟩
  | brk =>
    obtain ⟨_, _, _, q⟩ := hs
    exact q.elim
  | cont =>
    obtain ⟨_, _, _, q⟩ := hs
    exact q.elim
end

/-! ### calls -/
section
variable {X : Cx} {k : Nat} {f : Addr} {fd : FuncData} {ps : List Str} {sp : Sp3} {x : Str} {p pos : Pos} {e : Expr} {es : List Expr} {gs : GA}
theorem run_g {pins : List (Addr × Obj)} {σ : L2.St} {H : Hp} {s : Shared} {Q : VK} {us : List Value} {vs : List V} (F : FnG X.prog X.w X.K X.mg X.base k f fd ps sp) (hr : Room k X.A) (hg : X.A.guards = some []) (hb : Binds X.K fd ps []) (I : L2.Inv X pins σ H s) (r : Vals vs us) (h : up X.K sp vs H Q) :
    wpAny (model X.prog X.w) X.A (call (.ref f) us) (EP X pins σ Q) X.xe s := by
  have hl : (us ++ []).length = ps.length := by
    obtain ⟨ds, w, Q3, e1, rl, ra, hsp, out⟩ := h
    rw [List.append_nil, ← r.length, lenD ra]
    exact F.len _ _ _ hsp
  have hbs := hb s us I.kIn hl
  rw [List.append_nil] at hbs
  refine wpAny_call (codeAny_mono (F.run X.A X.stack s H ⟨us, []⟩ us vs Q hr hg I.env0 hbs r h) fun res s' hq => ?_)
  cases res with
  | error e => exact hq.elim
  | ok fl =>
    cases fl with
    | ret u => exact I.after hq
    | next => exact hq.elim
    | brk => exact hq.elim
    | cont => exact hq.elim
@[simp] def gFn (sp : Sp3) (gs : GA) : GE := fun ρ h Q => gs ρ h fun ds h1 => sp ds h1 Q
theorem e_call (F : FnG X.prog X.w X.K X.mg X.base k f fd ps sp) (hr : Room k X.A) (hgd : X.A.guards = some []) (hg : Gl X x) (hm : X.mg x = some (.ref f)) (hk : PySem.W.keepIn X.K (.ref f) = true) (hb : Binds X.K fd ps []) (ha : A3 X (e :: es) gs) (hdb : (x == ("__debug__" : Str)) = false := by decide)
    (he : starEach (e :: es) X.env = (false, eval e X.env) :: starEach es X.env := by rfl) (hpl : (backTo pos (starEach es X.env)).any (·.1) = false := by rfl) : E3 X (.Call (.Name x p) (e :: es) [] pos) (gFn sp gs) := by
  refine ⟨fun pins s σ H Q I ⟨ρ, w, Q3, eH, gd, q, out⟩ => ?_⟩
  subst eH
  refine wpAny_Call_Name_kw (ld_glob I hg hm ?_ hdb)
  have args := ha.run pos pins s σ w.H (fun vs H1 => up X.K sp vs H1 Q) I ⟨ρ, w, _, rfl, gd, q, fun ds w1 vs q1 r1 e1 p1 => ⟨ds, w1, Q3, rfl, r1, p1, q1, out.ext e1⟩⟩
  exact PySem.W.callWith_K (h₀ := X.base) I.ok.mod.kin hk (thn args fun us s1 ⟨vs, H1, I1, r, q⟩ => ⟨I1.kIn, run_g F hr hgd hb I1 r q⟩) he hpl
theorem e_call0 (F : FnG X.prog X.w X.K X.mg X.base k f fd ps sp) (hr : Room k X.A) (hgd : X.A.guards = some []) (hg : Gl X x) (hm : X.mg x = some (.ref f)) (hk : PySem.W.keepIn X.K (.ref f) = true) (hb : Binds X.K fd ps []) (hdb : (x == ("__debug__" : Str)) = false := by decide) :
    E3 X (.Call (.Name x p) [] [] pos) (gFn sp gNil) := by
  refine ⟨fun pins s σ H Q I ⟨ρ, w, Q3, eH, gd, q, out⟩ => ?_⟩
  subst eH
  refine wpAny_Call_Name_kw (ld_glob I hg hm ?_ hdb)
  exact PySem.W.callWith_K0 I.kIn hk (run_g (us := []) F hr hgd hb I .nil ⟨[], w, Q3, rfl, gd.rel, .nil, q, out⟩)
end

end G3

namespace G3
open PySem L2

abbrev rSubD : D2 := rArI (fun _ _ => True) fun i j => i - j
abbrev rModD : D2 := rArI (fun _ j => 0 < j) fun i j => i % j
abbrev rFdvD : D2 := rArI CDivW fun i j => i / j
abbrev rPowD : D2 := rArI CPow fun i j => i ^ j.toNat
abbrev rMulD : D2 := D2or (rArI CMulW fun i j => i * j) rMulT
abbrev rLtD : D2 := rCmpI fun i j => decide (i < j)
abbrev rLeD : D2 := rCmpI fun i j => decide (i ≤ j)
abbrev rGtD : D2 := rCmpI fun i j => decide (j < i)
abbrev rGeD : D2 := rCmpI fun i j => decide (j ≤ i)
/-- a list that changes no more -/
@[simp] def gFrz (g : GE) : GE := fun ρ h Q => g ρ h fun d h1 => match d with
  | .ref a => ∃ ds, h1 a = some (.lst ds) ∧ Q (.lst ds) (mdel h1 a)
  | d => Q d h1
theorem e_frz {X : Cx} {e : Expr} {ge : GE} (he : E3 X e ge) : E3 X e (gFrz ge) := PEimp he fun σ H Q ⟨ρ, w, Q3, e, gd, q, out⟩ => by
  subst e
  refine ⟨ρ, w, _, rfl, gd, q, fun d w1 v q1 r1 e1 p1 => ?_⟩
  cases d with
  | ref a =>
    obtain ⟨ds, hh, q2⟩ := q1
    cases p1
    obtain ⟨xs, hG, hH, ra⟩ := r1.mlst hh
    obtain ⟨r2, e2⟩ := r1.del a fun m e l => by
      rw [hh] at e
      cases e
      exact l
    exact out.go (w' := ⟨mdel w1.h a, w1.G, w1.H⟩) r2 (e1.trans e2) (.lst (.inl ⟨mdel_same, hG⟩) (ra.ext e2)) q2
  | _ => exact out.go r1 e1 p1 q1

/-! ### the readings, opened -/
theorem mul_int (i j : Int) (h : Mh) (Q : Kd) : rMulD (.int i) (.int j) h Q ↔ CMulW i j ∧ Q (.int (i * j)) h := by
  constructor
  · rintro (⟨a, b, e1, e2, c, q⟩ | ⟨xs, k, e, _⟩)
    · cases e1; cases e2; exact ⟨c, q⟩
    · cases e
  · rintro ⟨c, q⟩
    exact .inl ⟨i, j, rfl, rfl, c, q⟩
/-- products of numbers that aren't huge -/
theorem mulOk {i j : Int} (hi : i.natAbs < 2 ^ 300) (hj : j.natAbs < 2 ^ 300) : CMulW i j := wide_mul hi hj (by decide) (by decide) (by decide)
theorem divOk {i j : Int} (h : 0 < j) (hj : j.natAbs < 2 ^ 300) : CDivW i j := wide_div h hj (by decide) (by decide)
theorem mulLt {i j : Int} {a b : Nat} (hi : i.natAbs < 2 ^ a) (hj : j.natAbs < 2 ^ b) : (i * j).natAbs < 2 ^ (a + b) := wide_lt hi hj
theorem absLt {i : Int} {a : Nat} (h0 : 0 ≤ i) (h : i < 2 ^ a) : i.natAbs < 2 ^ a := by
  have : ((i.natAbs : Nat) : Int) < ((2 ^ a : Nat) : Int) := by
    rw [Int.natCast_pow]
    have e : ((i.natAbs : Nat) : Int) = i := by omega
    rw [e]
    exact h
  omega
end G3

namespace G3
open PySem L2

@[simp] theorem sizeLine_val : sizeLine = 16777216 := by decide
/-! ### the readings at things of known shape -/
section
variable {h : Mh} {z : Str} {i : Int} {b : Bool} {ds : List Dv} {a : Addr}
@[simp] theorem tyOf_non : tyOf h .non = some "NoneType" := rfl
@[simp] theorem tyOf_bl : tyOf h (.bl b) = some "bool" := rfl
@[simp] theorem tyOf_int : tyOf h (.int i) = some "int" := rfl
@[simp] theorem tyOf_str : tyOf h (.str z) = some "str" := rfl
@[simp] theorem tyOf_tup : tyOf h (.tup ds) = some "tuple" := rfl
@[simp] theorem tyOf_lst : tyOf h (.lst ds) = some "list" := rfl
theorem tyOf_ref (e : h a = some (.lst ds)) : tyOf h (.ref a) = some "list" := by simp [tyOf, e]
@[simp] theorem walkOf_str : walkOf (.str z) = some (z.cps.toList.map fun c => .str ⟨#[c]⟩) := rfl
@[simp] theorem walkOf_tup : walkOf (.tup ds) = some ds := rfl
@[simp] theorem walkOf_lst : walkOf (.lst ds) = some ds := rfl
@[simp] theorem lstOf_lst : lstOf h (.lst ds) = some ds := rfl
@[simp] theorem lstOf_tup : lstOf h (.tup ds) = none := rfl
@[simp] theorem lstOf_str : lstOf h (.str z) = none := rfl
theorem lstOf_ref (e : h a = some (.lst ds)) : lstOf h (.ref a) = some ds := by simp [lstOf, e]
@[simp] theorem seqOf_lst : seqOf h (.lst ds) = some ds := rfl
@[simp] theorem seqOf_tup : seqOf h (.tup ds) = some ds := rfl
@[simp] theorem seqOf_str : seqOf h (.str z) = none := rfl
theorem seqOf_ref (e : h a = some (.lst ds)) : seqOf h (.ref a) = some ds := by simp [seqOf, lstOf, e]
@[simp] theorem isNon_non : isNon .non = true := rfl
@[simp] theorem isNon_bl : isNon (.bl b) = false := rfl
@[simp] theorem isNon_int : isNon (.int i) = false := rfl
@[simp] theorem isNon_str : isNon (.str z) = false := rfl
@[simp] theorem isNon_tup : isNon (.tup ds) = false := rfl
@[simp] theorem isNon_lst : isNon (.lst ds) = false := rfl
@[simp] theorem isNon_ref : isNon (.ref a) = false := rfl
@[simp] theorem isNon_obj {n : Str} : isNon (.obj n) = false := rfl
@[simp] theorem str1_beq {c d : Nat} : (({ cps := #[c] } : Str) == { cps := #[d] }) = decide (c = d) := by
  by_cases e : c = d
  · subst e; simp
  · simp only [e, decide_false]
    apply Bool.eq_false_iff.2
    intro q
    have := eq_of_beq q
    simp at this
    exact e this
end

section
variable {h : Mh} {Q : Kd} {z x : Str} {i j : Int} {ds : List Dv} {d : Dv} {a : Addr} {n : String} {neg : Bool}
@[simp] theorem cIsi_mk : cIsi [d, .ty n] h Q ↔ n ∈ ["bool", "int", "str", "tuple", "list"] ∧ ∃ t, tyOf h d = some t ∧ Q (.bl (isB t n)) h := by
  constructor
  · rintro ⟨_, _, t, e, a, b, c⟩
    cases e
    exact ⟨a, t, b, c⟩
  · rintro ⟨a, t, b, c⟩
    exact ⟨_, _, t, rfl, a, b, c⟩
@[simp] theorem cLen_str : cLen [.str z] h Q ↔ z.length ≤ sizeLine ∧ Q (.int z.length) h := by
  constructor
  · rintro ⟨_, e, ⟨_, rfl, a, b⟩ | ⟨_, a, b⟩⟩
    · cases e; exact ⟨a, b⟩
    · cases e; cases a
  · rintro ⟨a, b⟩
    exact ⟨_, rfl, .inl ⟨_, rfl, a, b⟩⟩
@[simp] theorem cLen_tup : cLen [.tup ds] h Q ↔ Q (.int ds.length) h := by
  constructor
  · rintro ⟨_, e, ⟨_, rfl, a, b⟩ | ⟨_, a, b⟩⟩
    · cases e
    · cases e; cases a; exact b
  · intro b
    exact ⟨_, rfl, .inr ⟨_, rfl, b⟩⟩
@[simp] theorem cLen_lst : cLen [.lst ds] h Q ↔ Q (.int ds.length) h := by
  constructor
  · rintro ⟨_, e, ⟨_, rfl, a, b⟩ | ⟨_, a, b⟩⟩
    · cases e
    · cases e; cases a; exact b
  · intro b
    exact ⟨_, rfl, .inr ⟨_, rfl, b⟩⟩
@[simp] theorem cLen_ref : cLen [.ref a] h Q ↔ ∃ ds, h a = some (.lst ds) ∧ Q (.int ds.length) h := by
  constructor
  · rintro ⟨_, e, ⟨_, rfl, a, b⟩ | ⟨es, c, b⟩⟩
    · cases e
    · cases e
      simp only [seqOf, lstOf] at c
      split at c
      · rename_i ds' hh
        cases c
        exact ⟨_, hh, b⟩
      · cases c
  · rintro ⟨ds, c, b⟩
    exact ⟨_, rfl, .inr ⟨ds, seqOf_ref c, b⟩⟩
@[simp] theorem rIx_str : G3.rIxD (.str z) (.int i) h Q ↔ z.length ≤ sizeLine ∧ ∃ c, atI z.cps.toList i = some c ∧ Q (.str ⟨#[c]⟩) h := by
  constructor
  · rintro ⟨_, e, ⟨_, c, e2, a, b, q⟩ | ⟨_, _, a, b, q⟩⟩
    · cases e; cases e2; exact ⟨a, c, b, q⟩
    · cases a
  · rintro ⟨a, c, b, q⟩
    exact ⟨_, rfl, .inl ⟨_, c, rfl, a, b, q⟩⟩
@[simp] theorem rIx_tup : G3.rIxD (.tup ds) (.int i) h Q ↔ ∃ d, atI ds i = some d ∧ Q d h := by
  constructor
  · rintro ⟨_, e, ⟨_, c, e2, a, b, q⟩ | ⟨_, d, a, b, q⟩⟩
    · cases e2
    · cases e; cases a; exact ⟨d, b, q⟩
  · rintro ⟨d, b, q⟩
    exact ⟨_, rfl, .inr ⟨_, d, rfl, b, q⟩⟩
@[simp] theorem rIx_lst : G3.rIxD (.lst ds) (.int i) h Q ↔ ∃ d, atI ds i = some d ∧ Q d h := by
  constructor
  · rintro ⟨_, e, ⟨_, c, e2, a, b, q⟩ | ⟨_, d, a, b, q⟩⟩
    · cases e2
    · cases e; cases a; exact ⟨d, b, q⟩
  · rintro ⟨d, b, q⟩
    exact ⟨_, rfl, .inr ⟨_, d, rfl, b, q⟩⟩
@[simp] theorem rIx_ref : G3.rIxD (.ref a) (.int i) h Q ↔ ∃ ds, h a = some (.lst ds) ∧ ∃ d, atI ds i = some d ∧ Q d h := by
  constructor
  · rintro ⟨_, e, ⟨_, c, e2, a, b, q⟩ | ⟨_, d, c, b, q⟩⟩
    · cases e2
    · cases e
      simp only [seqOf, lstOf] at c
      split at c
      · rename_i ds' hh
        cases c
        exact ⟨_, hh, d, b, q⟩
      · cases c
  · rintro ⟨ds, c, d, b, q⟩
    exact ⟨_, rfl, .inr ⟨ds, d, seqOf_ref c, b, q⟩⟩
@[simp] theorem rIn_str : rInD neg (.str x) (.str z) h Q ↔ Q (.bl (if neg then !strIn x z else strIn x z)) h := by
  constructor
  · rintro (⟨_, _, e, e2, q⟩ | ⟨_, a, _⟩)
    · cases e; cases e2; exact q
    · cases a
  · intro q
    exact .inl ⟨_, _, rfl, rfl, q⟩
@[simp] theorem rIn_tup : rInD neg d (.tup ds) h Q ↔ okIn d ds ∧ Q (.bl (if neg then !isIn d ds else isIn d ds)) h := by
  constructor
  · rintro (⟨_, _, e, e2, q⟩ | ⟨_, a, b⟩)
    · cases e2
    · cases a; exact b
  · intro q
    exact .inr ⟨_, rfl, q⟩
@[simp] theorem rIn_lst : rInD neg d (.lst ds) h Q ↔ okIn d ds ∧ Q (.bl (if neg then !isIn d ds else isIn d ds)) h := by
  constructor
  · rintro (⟨_, _, e, e2, q⟩ | ⟨_, a, b⟩)
    · cases e2
    · cases a; exact b
  · intro q
    exact .inr ⟨_, rfl, q⟩
@[simp] theorem rIn_ref : rInD neg d (.ref a) h Q ↔ ∃ ds, h a = some (.lst ds) ∧ okIn d ds ∧ Q (.bl (if neg then !isIn d ds else isIn d ds)) h := by
  constructor
  · rintro (⟨_, _, e, e2, q⟩ | ⟨ds, c, b⟩)
    · cases e2
    · simp only [seqOf, lstOf] at c
      split at c
      · rename_i ds' hh
        cases c
        exact ⟨_, hh, b⟩
      · cases c
  · rintro ⟨ds, c, q⟩
    exact .inr ⟨ds, seqOf_ref c, q⟩
@[simp] theorem mul_int' : rMulD (.int i) (.int j) h Q ↔ CMulW i j ∧ Q (.int (i * j)) h := mul_int i j h Q
end

@[simp] theorem lstOf_refE {h : Mh} {a : Addr} {ds : List Dv} : lstOf h (.ref a) = some ds ↔ h a = some (.lst ds) := by
  simp only [lstOf]
  split
  · rename_i ds' e
    rw [e]
    simp
  · rename_i n
    simp only [reduceCtorEq, false_iff]
    exact fun e => n _ e
@[simp] theorem seqOf_refE {h : Mh} {a : Addr} {ds : List Dv} : seqOf h (.ref a) = some ds ↔ h a = some (.lst ds) := lstOf_refE
section
variable {h : Mh} {Q : Kd} {x z : Str} {i j : Int} {ds es : List Dv} {a b : Addr} {lo hi : Option Int}
@[simp] theorem rAdd_int : rAddD (.int i) (.int j) h Q ↔ Q (.int (i + j)) h := Iff.rfl
@[simp] theorem rAdd_str : rAddD (.str x) (.str z) h Q ↔ x.length + z.length ≤ sizeLine ∧ Q (.str (x ++ z)) h := Iff.rfl
@[simp] theorem rAdd_tup : rAddD (.tup ds) (.tup es) h Q ↔ ds.length + es.length ≤ sizeLine ∧ Q (.tup (ds ++ es)) h := Iff.rfl
@[simp] theorem rAdd_lst : rAddD (.lst ds) (.lst es) h Q ↔ ds.length + es.length ≤ sizeLine ∧ Q (.lst (ds ++ es)) h := by
  constructor
  · rintro ⟨_, _, e, e2, q⟩
    cases e; cases e2; exact q
  · intro q
    exact ⟨_, _, rfl, rfl, q⟩
@[simp] theorem rAdd_refL : rAddD (.ref a) (.lst es) h Q ↔ ∃ ds, h a = some (.lst ds) ∧ ds.length + es.length ≤ sizeLine ∧ Q (.lst (ds ++ es)) h := by
  constructor
  · rintro ⟨_, _, e, e2, q⟩
    cases e2; exact ⟨_, lstOf_refE.1 e, q⟩
  · rintro ⟨ds, e, q⟩
    exact ⟨_, _, lstOf_refE.2 e, rfl, q⟩
@[simp] theorem rSl_str : rSlD (.str z) lo hi h Q ↔ z.length ≤ sizeLine ∧ Q (.str (cutS z lo hi)) h := Iff.rfl
@[simp] theorem rSl_tup : rSlD (.tup ds) lo hi h Q ↔ Q (.tup (cutD ds lo hi)) h := Iff.rfl
@[simp] theorem rSl_lst : rSlD (.lst ds) lo hi h Q ↔ Q (.lst (cutD ds lo hi)) h := ⟨fun ⟨_, e, q⟩ => by cases e; exact q, fun q => ⟨_, rfl, q⟩⟩
@[simp] theorem rSl_ref : rSlD (.ref a) lo hi h Q ↔ ∃ ds, h a = some (.lst ds) ∧ Q (.lst (cutD ds lo hi)) h := ⟨fun ⟨_, e, q⟩ => ⟨_, lstOf_refE.1 e, q⟩, fun ⟨_, e, q⟩ => ⟨_, lstOf_refE.2 e, q⟩⟩
end
theorem ty_str {h : Mh} {d : Dv} {t : String} (e : tyOf h d = some t) (n : ¬ ∃ z, d = .str z) : t ≠ "str" := by
  cases d with
  | str z => exact absurd ⟨z, rfl⟩ n
  | ref a =>
    simp only [tyOf] at e
    split at e <;> cases e
    decide
  | _ => cases e <;> decide
theorem ty_tup {h : Mh} {d : Dv} {t : String} (e : tyOf h d = some t) (n : ¬ ∃ z, d = .tup z) : t ≠ "tuple" := by
  cases d with
  | tup z => exact absurd ⟨z, rfl⟩ n
  | ref a =>
    simp only [tyOf] at e
    split at e <;> cases e
    decide
  | _ => cases e <;> decide

theorem mul_tup {h : Mh} {Q : Kd} {k : Int} {ds : List Dv} : rMulD (.tup ds) (.int k) h Q ↔ ds ≠ [] ∧ 2 ≤ k ∧ k ≤ 1000 ∧ ds.length ≤ 1000 ∧ Q (.tup (List.replicate k.toNat ds).flatten) h := by
  constructor
  · rintro (⟨_, _, e, _⟩ | ⟨_, _, e, e2, q⟩)
    · cases e
    · cases e; cases e2; exact q
  · intro q
    exact .inr ⟨_, _, rfl, rfl, q⟩

@[simp] theorem mAppend_mk {a : Addr} {y : Dv} {h : Mh} {Q : Kd} : mAppend (.ref a) [y] h Q ↔ ∃ xs, h a = some (.lst xs) ∧ xs.length < sizeLine ∧ Q .non (mput h a (.lst (xs ++ [y]))) := by
  constructor
  · rintro ⟨_, xs, _, e, e2, e3, e5, q⟩
    cases e; cases e2
    exact ⟨xs, e3, e5, q⟩
  · rintro ⟨xs, e3, e5, q⟩
    exact ⟨_, xs, _, rfl, rfl, e3, e5, q⟩
theorem seqIx_ok {i : Int} {n : Nat} (h0 : 0 ≤ i) (h : i < n) : seqIndex? i n = some i.toNat := by
  unfold seqIndex?
  have h1 : ¬ i < 0 := by omega
  simp [h0, h, h1]
theorem mPopAt_ok {a : Addr} {i : Int} {xs : List Dv} {h : Mh} {Q : Kd} (e : h a = some (.lst xs)) (h0 : 0 ≤ i) (h1 : i < xs.length) (hz : xs.length < 2 ^ 62) (q : ∀ y, y ∈ xs → Q y (mput h a (.lst (xs.eraseIdx i.toNat)))) : mPopAt (.ref a) [.int i] h Q := by
  have hr : i.toNat < xs.length := by omega
  exact ⟨a, xs, i, _, xs[i.toNat], rfl, rfl, e, by omega, by omega, seqIx_ok h0 h1, List.getElem?_eq_getElem hr, q _ (List.getElem_mem hr)⟩

@[simp] theorem ggCons_cons {g : GG} {r : GGs} {d : Dv} {ds : List Dv} {ρ : Sl} {h : Mh} {Q : Sl → Mh → Prop} : ggCons g r (d :: ds) ρ h Q ↔ g d ρ h fun ρ1 h1 => r ds ρ1 h1 Q := ⟨fun ⟨_, _, e, q⟩ => by cases e; exact q, fun q => ⟨_, _, rfl, q⟩⟩
@[simp] theorem ggTup_tup {n : Nat} {r : GGs} {ds : List Dv} {ρ : Sl} {h : Mh} {Q : Sl → Mh → Prop} : ggTup n r (.tup ds) ρ h Q ↔ ds.length = n ∧ r ds ρ h Q := ⟨fun ⟨_, e, q⟩ => by cases e; exact q, fun q => ⟨_, rfl, q⟩⟩
@[simp] theorem ggTup_lst {n : Nat} {r : GGs} {ds : List Dv} {ρ : Sl} {h : Mh} {Q : Sl → Mh → Prop} : ggTup n r (.lst ds) ρ h Q ↔ ds.length = n ∧ r ds ρ h Q := ⟨fun ⟨_, e, q⟩ => by cases e; exact q, fun q => ⟨_, rfl, q⟩⟩

theorem pick_ix {xs : List Dv} {i : Int} {R : Dv → Prop} (P : Dv → Prop) (h0 : 0 ≤ i) (h1 : i < xs.length) (hp : ∀ x ∈ xs, P x) (k : ∀ d, P d → R d) : ∃ d, atI xs i = some d ∧ R d := by
  have hl : i.toNat < xs.length := by omega
  have e : ixN xs.length i = some i.toNat := by
    unfold ixN
    rw [if_pos h0, if_pos h1]
  refine ⟨xs[i.toNat], ?_, k _ (hp _ (List.getElem_mem hl))⟩
  unfold atI
  rw [e]
  exact List.getElem?_eq_getElem hl
theorem cutD_to {xs : List Dv} {k : Int} (h : 0 ≤ k) : cutD xs none (some k) = xs.take k.toNat := by
  unfold cutD HT.sIx
  have h1 : ¬ k < 0 := by omega
  simp only [h1, if_false, List.drop_zero, Nat.sub_zero]
  rw [List.take_eq_take_iff]
  omega
theorem cutD_from {xs : List Dv} {k : Int} (h : 0 ≤ k) : cutD xs (some k) none = xs.drop k.toNat := by
  unfold cutD HT.sIx
  have h1 : ¬ k < 0 := by omega
  simp only [h1, if_false]
  apply List.ext_getElem?
  intro i
  rw [List.getElem?_take, List.getElem?_drop, List.getElem?_drop]
  split
  · have : (min k.toNat xs.length : Nat) + i = k.toNat + i := by omega
    first | rw [this] | (congr 1; omega)
  · rw [List.getElem?_eq_none]
    omega

/-! ### loops, by what they keep -/
abbrev stepLc (gg : GG) (gt : GT) (ge : GE) (ρ : Sl) (d : Dv) (h : Mh) (Q : Kd) (R : Mh → Prop) : Prop := gg d ρ h fun ρ2 h2 => gt ρ2 h2 fun b h3 => if b = true then ge ρ2 h3 Q else R h3
/-- a comprehension of one thing for one thing, nothing changed -/
theorem wLc_map {vs : List Nat} {gg : GG} {gt : GT} {ge : GE} {ρ : Sl} {h : Mh} (f : Dv → Dv) {Q : List Dv → Mh → Prop} : ∀ (ds acc : List Dv), (∀ d ∈ ds, ∀ Q' R, Q' (f d) h → stepLc gg gt ge (wipD ρ vs) d h Q' R) → acc.length + ds.length ≤ sizeLine → Q (acc ++ ds.map f) h → wLc vs gg gt ge ρ ds acc h Q
  | [], acc, _, _, q => by simpa using q
  | d :: ds, acc, hs, hl, q => by
    refine hs d List.mem_cons_self _ _ ⟨by rw [List.length_cons] at hl; omega, wLc_map f ds (acc ++ [f d]) (fun e he => hs e (List.mem_cons_of_mem _ he)) (by rw [List.length_append, List.length_singleton]; rw [List.length_cons] at hl; omega) ?_⟩
    rw [List.map_cons] at q
    simpa using q
/-- .. some of them -/
theorem wLc_some {vs : List Nat} {gg : GG} {gt : GT} {ge : GE} {ρ : Sl} {h : Mh} (f : Dv → Option Dv) {Q : List Dv → Mh → Prop} : ∀ (ds acc : List Dv), (∀ d ∈ ds, ∀ Q' R, (match f d with | some y => Q' y h | none => R h) → stepLc gg gt ge (wipD ρ vs) d h Q' R) → acc.length + ds.length ≤ sizeLine → Q (acc ++ ds.filterMap f) h → wLc vs gg gt ge ρ ds acc h Q
  | [], acc, _, _, q => by simpa using q
  | d :: ds, acc, hs, hl, q => by
    rw [List.length_cons] at hl
    refine hs d List.mem_cons_self _ _ ?_
    cases e : f d with
    | some y =>
      rw [List.filterMap_cons, e] at q
      exact ⟨by omega, wLc_some f ds (acc ++ [y]) (fun e he => hs e (List.mem_cons_of_mem _ he)) (by rw [List.length_append, List.length_singleton]; omega) (by simpa using q)⟩
    | none =>
      rw [List.filterMap_cons, e] at q
      exact wLc_some f ds acc (fun e he => hs e (List.mem_cons_of_mem _ he)) (by omega) q
/-- one thing for one thing, the heap changes -/
theorem wLc_inv {vs : List Nat} {gg : GG} {gt : GT} {ge : GE} {ρ : Sl} (P : Dv → Prop) {Q : List Dv → Mh → Prop} : ∀ (ds acc : List Dv) (I : Nat → Mh → Prop) (h : Mh),
    (∀ i d h Q' R, I i h → ds[i]? = some d → (∀ y h', P y → I (i + 1) h' → Q' y h') → stepLc gg gt ge (wipD ρ vs) d h Q' R) → I 0 h → acc.length + ds.length ≤ sizeLine →
    (∀ ys h', ys.length = ds.length → (∀ y ∈ ys, P y) → I ds.length h' → Q (acc ++ ys) h') → wLc vs gg gt ge ρ ds acc h Q
  | [], acc, I, h, _, i0, _, q => by simpa using q [] h rfl (fun _ z => by cases z) i0
  | d :: ds, acc, I, h, hs, i0, hl, q => by
    rw [List.length_cons] at hl
    refine hs 0 d h _ _ i0 rfl fun y h' py i1 => ⟨by omega, wLc_inv P ds (acc ++ [y]) (fun i => I (i + 1)) h' (fun i d' h2 Q' R a b c => hs (i + 1) d' h2 Q' R a b c) i1 (by rw [List.length_append, List.length_singleton]; omega) fun ys h2 e al i2 => ?_⟩
    have := q (y :: ys) h2 (by rw [List.length_cons, List.length_cons, e]) (fun z hz => by
      rcases List.mem_cons.mp hz with hz | hz
      · subst hz; exact py
      · exact al z hz) i2
    simpa using this
/-- a loop that neither breaks nor returns -/
theorem wFor_inv {gg : GG} {b : GS} {E : En} : ∀ (ds : List Dv) (I : Nat → Sl → Mh → Prop) (ρ : Sl) (h : Mh),
    (∀ i d ρ h N, I i ρ h → ds[i]? = some d → (∀ ρ' h', I (i + 1) ρ' h' → N ρ' h') → gg d ρ h fun ρ1 h1 => b { E with nx := N, ct := N, bk := E.nx } ρ1 h1) → I 0 ρ h → (∀ ρ' h', I ds.length ρ' h' → E.nx ρ' h') → wFor gg b ds E ρ h
  | [], I, ρ, h, _, i0, q => q ρ h i0
  | d :: ds, I, ρ, h, hs, i0, q => hs 0 d ρ h (wFor gg b ds E) i0 rfl fun ρ' h' i1 => wFor_inv ds (fun i => I (i + 1)) ρ' h' (fun i d' ρ h N a c e => hs (i + 1) d' ρ h N a c e) i1 q

/-! ### one statement after the other -/
theorem seq_step {g1 g2 : GS} {E : En} {ρ : Sl} {h : Mh} (x : g1 { E with nx := g2 E } ρ h) : gSeq g1 g2 E ρ h := x
theorem seq_cut {g1 g2 : GS} {E : En} {ρ : Sl} {h : Mh} (I : Sl → Mh → Prop) (h1 : ∀ N, (∀ ρ' h', I ρ' h' → N ρ' h') → g1 { E with nx := N } ρ h) (h2 : ∀ ρ' h', I ρ' h' → g2 E ρ' h') : gSeq g1 g2 E ρ h := h1 _ h2

theorem atI_nat {α : Type} (xs : List α) (n : Nat) : atI xs (n : Int) = xs[n]? := by
  unfold atI ixN
  by_cases h : n < xs.length
  · have h1 : (0 : Int) ≤ n := by omega
    have h2 : (n : Int) < xs.length := by omega
    simp [h2]
  · have h2 : ¬ (n : Int) < xs.length := by omega
    simp [h2, List.getElem?_eq_none (Nat.not_lt.1 h)]
@[simp] theorem atI_lit {α : Type} (xs : List α) (n : Nat) : atI xs (no_index (OfNat.ofNat n : Int)) = xs[n]? := atI_nat xs n
@[simp] theorem atI_map {α β : Type} (f : α → β) (xs : List α) (i : Int) : atI (xs.map f) i = (atI xs i).map f := by
  unfold atI
  rw [List.length_map]
  cases ixN xs.length i <;> simp
theorem ixN_nat (m n : Nat) : ixN m (n : Int) = if n < m then some n else none := by
  unfold ixN
  by_cases h : n < m
  · have h2 : (n : Int) < m := by omega
    simp [h2, h]
  · have h2 : ¬ (n : Int) < m := by omega
    simp [h2, h]
@[simp] theorem ixN_lit (m n : Nat) : ixN m (no_index (OfNat.ofNat n : Int)) = if n < m then some n else none := ixN_nat m n
@[simp] theorem mput_same' {h : Mh} {a : Addr} {o : Mo} : mput h a o a = some o := mput_same
@[simp] theorem mput_mput' {h : Mh} {a : Addr} {o u : Mo} : mput (mput h a o) a u = mput h a u := mput_mput

/-! ### texts -/
theorem strIn_one (x : Str) (c : Nat) : strIn ⟨#[c]⟩ x = decide (c ∈ x.cps.toList) := StrLaws.found_one x c

/-- what is walked has a length and items -/
theorem walk_len {s : Dv} {es : List Dv} {h : Mh} {Q : Kd} (hw : walkOf s = some es) (hl : es.length ≤ sizeLine) (q : Q (.int es.length) h) : cLen [s] h Q := by
  cases s with
  | str z =>
    cases hw
    rw [List.length_map, Array.length_toList] at hl q
    exact ⟨_, rfl, .inl ⟨z, rfl, hl, q⟩⟩
  | tup ds => cases hw; exact ⟨_, rfl, .inr ⟨_, rfl, q⟩⟩
  | lst ds => cases hw; exact ⟨_, rfl, .inr ⟨_, rfl, q⟩⟩
  | _ => cases hw
theorem walk_ix {s d : Dv} {es : List Dv} {i : Int} {h : Mh} {Q : Kd} (hw : walkOf s = some es) (hl : es.length ≤ sizeLine) (hi : atI es i = some d) (q : Q d h) : rIxD s (.int i) h Q := by
  refine ⟨i, rfl, ?_⟩
  cases s with
  | str z =>
    cases hw
    rw [List.length_map, Array.length_toList] at hl
    rw [atI_map] at hi
    cases e : atI z.cps.toList i with
    | none => rw [e] at hi; cases hi
    | some c =>
      rw [e] at hi
      cases hi
      exact .inl ⟨z, c, rfl, hl, e, q⟩
  | tup ds => cases hw; exact .inr ⟨_, d, rfl, hi, q⟩
  | lst ds => cases hw; exact .inr ⟨_, d, rfl, hi, q⟩
  | _ => cases hw

/-- texts of small letters -/
def Wd1 (k : Nat) (z : Str) : Prop := z.length ≤ k ∧ ∀ c ∈ z.cps.toList, c < 128
theorem str_len (z : Str) : z.length = z.cps.toList.length := by simp [Str.length]
theorem str_append (x y : Str) : (x ++ y).cps.toList = x.cps.toList ++ y.cps.toList := by
  show (x.cps ++ y.cps).toList = _
  simp
theorem str_len_append (x y : Str) : (x ++ y).length = x.length + y.length := by rw [str_len, str_append, List.length_append, str_len, str_len]
theorem Wd1.mono {k m : Nat} {z : Str} (w : Wd1 k z) (h : k ≤ m) : Wd1 m z := ⟨Nat.le_trans w.1 h, w.2⟩
theorem Wd1.append {k m : Nat} {x y : Str} (a : Wd1 k x) (b : Wd1 m y) : Wd1 (k + m) (x ++ y) := by
  refine ⟨by rw [str_len_append]; have := a.1; have := b.1; omega, fun c hc => ?_⟩
  rw [str_append] at hc
  rcases List.mem_append.1 hc with h | h
  · exact a.2 c h
  · exact b.2 c h
theorem cutS_len (z : Str) (lo hi : Option Int) : (cutS z lo hi).length ≤ z.length := by
  rw [str_len, str_len]
  unfold cutS
  simp only [List.length_take, List.length_drop]
  omega
theorem cutS_mem {z : Str} {lo hi : Option Int} {c : Nat} (h : c ∈ (cutS z lo hi).cps.toList) : c ∈ z.cps.toList := by
  unfold cutS at h
  simp only at h
  exact List.mem_of_mem_drop (List.mem_of_mem_take h)
theorem Wd1.cut {k : Nat} {z : Str} (w : Wd1 k z) (lo hi : Option Int) : Wd1 k (cutS z lo hi) := ⟨Nat.le_trans (cutS_len z lo hi) w.1, fun c h => w.2 c (cutS_mem h)⟩
theorem Wd1.one {c : Nat} (h : c < 128) : Wd1 1 ⟨#[c]⟩ := ⟨Nat.le_refl _, fun d hd => by
  simp at hd
  rw [hd]; exact h⟩
theorem joins (sep : Str) (k : Nat) (hs : ∀ c ∈ sep.cps.toList, c < 128) : ∀ ys : List Str, (∀ y ∈ ys, Wd1 k y) → Wd1 (ys.length * (k + sep.length)) (Str.join sep ys)
  | [], _ => ⟨Nat.zero_le _, fun c h => by simp [Str.join, Str.empty] at h⟩
  | [x], h => (h x List.mem_cons_self).mono (by simp)
  | x :: y :: r, h => by
    have ih := joins sep k hs (y :: r) fun z hz => h z (List.mem_cons_of_mem _ hz)
    have hx := h x List.mem_cons_self
    refine Wd1.mono ((hx.append (m := sep.length) (y := sep) ⟨Nat.le_refl _, hs⟩).append ih) ?_
    simp only [List.length_cons, Nat.add_mul]
    omega
/-- texts out of the items of a walk -/
theorem strs_pick {es : List Dv} (P : Str → Prop) (he : ∀ e ∈ es, ∃ z, e = .str z ∧ P z) : ∀ {ys : List Dv}, (∀ y ∈ ys, y ∈ es) → ∃ zs : List Str, ys = zs.map Dv.str ∧ ∀ z ∈ zs, P z
  | [], _ => ⟨[], rfl, fun _ h => by cases h⟩
  | y :: ys, h => by
    obtain ⟨z, rfl, hz⟩ := he y (h y List.mem_cons_self)
    obtain ⟨zs, rfl, hzs⟩ := strs_pick P he fun y hy => h y (List.mem_cons_of_mem _ hy)
    refine ⟨z :: zs, rfl, fun x hx => ?_⟩
    rcases List.mem_cons.1 hx with e | e
    · subst e; exact hz
    · exact hzs x e
theorem walk_str {z : Str} : walkOf (.str z) = some (z.cps.toList.map fun c => .str ⟨#[c]⟩) := rfl
/-- all([p(x) for x in xs]) -/
theorem all_lc {vs : List Nat} {gg : GG} {gt : GT} {ge : GE} {ρ : Sl} {h : Mh} {Q : Kd} (p : Dv → Bool) {ds : List Dv} (hs : ∀ d ∈ ds, ∀ Q' R, Q' (.bl (p d)) h → stepLc gg gt ge (wipD ρ vs) d h Q' R) (hl : ds.length ≤ sizeLine) (q : Q (.bl (ds.all p)) h) :
    wLc vs gg gt ge ρ ds [] h (fun acc h2 => cAll [.lst acc] h2 Q) := by
  refine wLc_map (fun d => .bl (p d)) ds [] hs (by simpa using hl) ⟨.lst (ds.map fun d => .bl (p d)), ds.map p, by simp, by simp [lstOf], ?_⟩
  have e : ((ds.map p).all fun b => b) = ds.all p := by
    rw [List.all_map]
    rfl
  rw [e]
  exact q

/-! ### what may be shown -/
mutual
def smal : Dv → Bool
  | .int i => decide (i.natAbs.log2 < 150)
  | .str z => z.cps.toList.all fun c => decide (c < 16 ^ 8)
  | .tup ds => smals ds
  | .lst ds => smals ds
  | .non => true
  | .bl _ => true
  | .ref _ => false
  | .obj _ => false
  | .ty _ => false
def smals : List Dv → Bool
  | [] => true
  | d :: ds => smal d && smals ds
end
mutual
def wt : Dv → Nat
  | .int i => i.natAbs.log2 + 1
  | .str z => z.length
  | .tup ds => wts ds
  | .lst ds => wts ds
  | .non => 0
  | .bl _ => 0
  | .ref _ => 0
  | .obj _ => 0
  | .ty _ => 0
def wts : List Dv → Nat
  | [] => 0
  | d :: ds => wt d + 1 + wts ds
end
mutual
theorem smal_of : ∀ d : Dv, smal d = true → dat d = true ∧ (py d).showable = true ∧ (py d).leavesShort 151 = true ∧ (py d).weight ≤ wt d
  | .non, _ => ⟨rfl, rfl, rfl, Nat.le_refl _⟩
  | .bl _, _ => ⟨rfl, rfl, rfl, Nat.le_refl _⟩
  | .int i, h => by
    have h : i.natAbs.log2 < 150 := by simpa [smal] using h
    refine ⟨rfl, by simp [py, PyData.showable]; omega, ?_, ?_⟩
    · simp only [py, PyData.leavesShort, decide_eq_true_eq, PyData.shown]
      have e : (Str.ofString (toString i)).length ≤ 151 := by
        have e1 := int_text_length_le (a := i) (k := 150) (by decide) h
        rw [Str.ofString_eq_toList]
        simp only [Str.length, List.size_toArray, List.length_map]
        rw [String.length_toList]
        exact e1
      exact decide_eq_true e
    · simp only [py, PyData.weight, wt]
      split <;> omega
  | .str z, h => by
    refine ⟨rfl, rfl, by simpa [smal, py, PyData.leavesShort] using h, Nat.le_refl _⟩
  | .tup ds, h => by
    obtain ⟨a, b, c, d⟩ := smals_of ds (by simpa [smal] using h)
    exact ⟨by simpa [dat] using a, by simpa [py, PyData.showable] using b, by simpa [py, PyData.leavesShort] using c, by simpa [py, PyData.weight, wt] using d⟩
  | .lst ds, h => by
    obtain ⟨a, b, c, d⟩ := smals_of ds (by simpa [smal] using h)
    exact ⟨by simpa [dat] using a, by simpa [py, PyData.showable] using b, by simpa [py, PyData.leavesShort] using c, by simpa [py, PyData.weight, wt] using d⟩
  | .ref _, h => by simp [smal] at h
  | .obj _, h => by simp [smal] at h
  | .ty _, h => by simp [smal] at h
theorem smals_of : ∀ ds : List Dv, smals ds = true → dats ds = true ∧ PyData.showableAll (pys ds) = true ∧ PyData.leavesShortAll 151 (pys ds) = true ∧ PyData.weightAll (pys ds) ≤ wts ds
  | [], _ => ⟨rfl, rfl, rfl, Nat.le_refl _⟩
  | d :: ds, h => by
    simp only [smals, Bool.and_eq_true] at h
    obtain ⟨a, b, c, e⟩ := smal_of d h.1
    obtain ⟨a2, b2, c2, e2⟩ := smals_of ds h.2
    refine ⟨by simp [a, a2], by simp [pys, PyData.showableAll, b, b2], by simp [pys, PyData.leavesShortAll, c, c2], ?_⟩
    simp only [pys, PyData.weightAll, wts]
    omega
end
/-- shown, and not long -/
structure Nic (D W : Nat) (d : Dv) : Prop where
  sm : smal d = true
  dp : dep d ≤ D
  wt : wt d ≤ W
theorem Nic.mono {D W D' W' : Nat} {d : Dv} (n : Nic D W d) (h : D ≤ D') (h' : W ≤ W') : Nic D' W' d := ⟨n.sm, Nat.le_trans n.dp h, Nat.le_trans n.wt h'⟩
theorem Nic.okE {D W : Nat} {d : Dv} (n : Nic D W d) (h : D ≤ 60) : okE d := ⟨(smal_of d n.sm).1, Nat.le_trans n.dp h⟩
theorem Nic.okR {D W : Nat} {d : Dv} (n : Nic D W d) (h : D ≤ 60) (hW : W ≤ 100000) : okR d := by
  obtain ⟨a, b, c, e⟩ := smal_of d n.sm
  refine ⟨a, Nat.le_trans n.dp h, b, ?_⟩
  have := PyData.shown_le 151 (by decide) (py d) c
  have e2 := n.wt
  have e3 : sizeLine = 16777216 := by decide
  unfold shw
  omega
theorem nic_bl (b : Bool) : Nic 0 0 (.bl b) := ⟨rfl, Nat.le_refl _, Nat.le_refl _⟩
theorem nic_non : Nic 0 0 .non := ⟨rfl, Nat.le_refl _, Nat.le_refl _⟩
theorem nic_str {k : Nat} {z : Str} (w : Wd1 k z) : Nic 0 k (.str z) := ⟨by
  simp only [smal, List.all_eq_true, decide_eq_true_eq]
  intro c hc
  have := w.2 c hc
  have e : (16 : Nat) ^ 8 = 4294967296 := by decide
  omega, Nat.le_refl _, w.1⟩
theorem nics {D W : Nat} : ∀ {ds : List Dv}, (∀ d ∈ ds, Nic D W d) → smals ds = true ∧ deps ds ≤ D ∧ wts ds ≤ ds.length * (W + 1)
  | [], _ => ⟨rfl, Nat.zero_le _, Nat.zero_le _⟩
  | d :: ds, h => by
    obtain ⟨a, b, c⟩ := nics fun e he => h e (List.mem_cons_of_mem _ he)
    have n := h d List.mem_cons_self
    have n1 := n.dp
    have n2 := n.wt
    refine ⟨by simp [smals, n.sm, a], by simp only [deps]; omega, ?_⟩
    simp only [wts, List.length_cons, Nat.add_mul]
    omega
theorem nic_tup {D W : Nat} {ds : List Dv} (h : ∀ d ∈ ds, Nic D W d) : Nic (D + 1) (ds.length * (W + 1)) (.tup ds) := let ⟨a, b, c⟩ := nics h; ⟨a, Nat.succ_le_succ b, c⟩
theorem nic_lst {D W : Nat} {ds : List Dv} (h : ∀ d ∈ ds, Nic D W d) : Nic (D + 1) (ds.length * (W + 1)) (.lst ds) := let ⟨a, b, c⟩ := nics h; ⟨a, Nat.succ_le_succ b, c⟩
mutual
theorem deq_refl : ∀ d : Dv, dat d = true → deq d d = true
  | .non, _ => rfl
  | .bl b, _ => by simp
  | .int i, _ => by simp
  | .str z, _ => by simp
  | .tup ds, h => by simpa using deqs_refl ds (by simpa [dat] using h)
  | .lst ds, h => by simpa using deqs_refl ds (by simpa [dat] using h)
  | .ref _, h => by simp [dat] at h
  | .obj _, h => by simp [dat] at h
  | .ty _, h => by simp [dat] at h
theorem deqs_refl : ∀ ds : List Dv, dats ds = true → deqs ds ds = true
  | [], _ => rfl
  | d :: ds, h => by
    simp only [dats, Bool.and_eq_true] at h
    simp [deq_refl d h.1, deqs_refl ds h.2]
end

theorem smals_mem : ∀ {ds : List Dv}, smals ds = true → ∀ d ∈ ds, smal d = true
  | e :: ds, h, d, hd => by
    simp only [smals, Bool.and_eq_true] at h
    rcases List.mem_cons.1 hd with q | q
    · subst q; exact h.1
    · exact smals_mem h.2 d q
theorem deps_mem : ∀ {ds : List Dv}, ∀ d ∈ ds, dep d ≤ deps ds
  | e :: ds, d, hd => by
    simp only [deps]
    rcases List.mem_cons.1 hd with q | q
    · subst q; omega
    · have := deps_mem d q; omega
theorem wts_mem : ∀ {ds : List Dv}, ∀ d ∈ ds, wt d ≤ wts ds
  | e :: ds, d, hd => by
    simp only [wts]
    rcases List.mem_cons.1 hd with q | q
    · subst q; omega
    · have := wts_mem d q; omega
theorem Nic.tup {D W : Nat} {ds : List Dv} (n : Nic D W (.tup ds)) : ∀ d ∈ ds, Nic D W d := fun d hd => ⟨smals_mem n.sm d hd, by have := deps_mem d hd; have := n.dp; simp only [dep] at this; omega, by have := wts_mem d hd; have := n.wt; simp only [G3.wt] at this; omega⟩
theorem Nic.lst {D W : Nat} {ds : List Dv} (n : Nic D W (.lst ds)) : ∀ d ∈ ds, Nic D W d := fun d hd => ⟨smals_mem n.sm d hd, by have := deps_mem d hd; have := n.dp; simp only [dep] at this; omega, by have := wts_mem d hd; have := n.wt; simp only [G3.wt] at this; omega⟩
theorem nic_tup' {D W m : Nat} {ds : List Dv} (h : ∀ d ∈ ds, Nic D W d) (hm : ds.length ≤ m) : Nic (D + 1) (m * (W + 1)) (.tup ds) := (nic_tup h).mono (Nat.le_refl _) (Nat.mul_le_mul_right _ hm)
theorem nic_lst' {D W m : Nat} {ds : List Dv} (h : ∀ d ∈ ds, Nic D W d) (hm : ds.length ≤ m) : Nic (D + 1) (m * (W + 1)) (.lst ds) := (nic_lst h).mono (Nat.le_refl _) (Nat.mul_le_mul_right _ hm)
theorem nic_int {i : Int} (h : i.natAbs.log2 < 150) : Nic 0 150 (.int i) := ⟨by simpa [smal] using h, Nat.le_refl _, h⟩
theorem nic_intB {i : Int} {k : Nat} (h : i.natAbs < 2 ^ k) (hk : k ≤ 150) : Nic 0 (k + 1) (.int i) := by
  have hl : i.natAbs.log2 ≤ k := by
    by_cases z : i.natAbs = 0
    · rw [z]; simp
    · exact Nat.le_of_lt ((Nat.log2_lt z).2 h)
  by_cases e : i.natAbs.log2 < 150
  · exact ⟨by simpa [smal] using e, Nat.le_refl _, Nat.succ_le_succ hl⟩
  · by_cases z : i.natAbs = 0
    · rw [z] at e; simp at e
    · have := (Nat.log2_lt z).2 h
      omega
theorem Nic.ty {D W : Nat} {d : Dv} (n : Nic D W d) (h : Mh) : ∃ t, tyOf h d = some t := by
  have := n.sm
  cases d with
  | ref a => simp [smal] at this
  | obj a => simp [smal] at this
  | ty a => simp [smal] at this
  | _ => exact ⟨_, rfl⟩
theorem Nic.sz {D W : Nat} {d : Dv} (n : Nic D W d) (hW : W ≤ 100000) : ∀ z, d = .str z → z.length ≤ sizeLine := by
  rintro z rfl
  have := n.wt
  simp only [G3.wt] at this
  have e3 : sizeLine = 16777216 := by decide
  omega
theorem atI_pick {α : Type} {xs : List α} {i : Int} (P : α → Prop) (h0 : 0 ≤ i) (h : i < xs.length) (hp : ∀ x ∈ xs, P x) : ∃ x, atI xs i = some x ∧ P x := by
  have e : ixN xs.length i = some i.toNat := by
    unfold ixN
    split <;> simp_all <;> omega
  have hl : i.toNat < xs.length := by omega
  refine ⟨xs[i.toNat], ?_, hp _ (List.getElem_mem hl)⟩
  unfold atI
  rw [e]
  exact List.getElem?_eq_getElem hl
theorem cutD_mem {xs : List Dv} {lo hi : Option Int} {d : Dv} (h : d ∈ cutD xs lo hi) : d ∈ xs := by
  unfold cutD at h
  exact List.mem_of_mem_drop (List.mem_of_mem_take h)
theorem cutD_len (xs : List Dv) (lo hi : Option Int) : (cutD xs lo hi).length ≤ xs.length := by
  unfold cutD
  simp only [List.length_take, List.length_drop]
  omega
theorem rng_len (lo : Int) (n : Nat) : (rng lo n).length = n := by simp [rng]
theorem rng_get {lo : Int} {n i : Nat} {d : Dv} (h : (rng lo n)[i]? = some d) : i < n ∧ d = .int (lo + (i : Nat)) := by
  have hi : i < n := by
    have := (List.getElem?_eq_some_iff.1 h).1
    rwa [rng_len] at this
  unfold rng at h
  rw [List.getElem?_map, List.getElem?_range hi] at h
  cases h
  exact ⟨hi, rfl⟩

/-! ### a script's feed -/
def Feed (h : Mh) (a : Addr) (n : Nat) : Prop := ∃ (cells : List Int) (at_ left : Int), h a = some (.lst [.lst (cells.map Dv.int), .int at_, .int left]) ∧ 0 ≤ at_ ∧ at_ ≤ n ∧ cells.length ≤ 60
theorem Feed.mono {h : Mh} {a : Addr} {n m : Nat} (f : Feed h a n) (l : n ≤ m) : Feed h a m := let ⟨c, x, y, e, p, q, l⟩ := f; ⟨c, x, y, e, p, by omega, l⟩
theorem Feed.put {h : Mh} {a b : Addr} {n : Nat} {o : Mo} (f : Feed h a n) (ne : a ≠ b) : Feed (mput h b o) a n := let ⟨c, x, y, e, p, q⟩ := f; ⟨c, x, y, (by rw [mput_ne ne]; exact e), p, q⟩
/-- what stood stands, but a -/
def Kp (a : Addr) (h h' : Mh) : Prop := ∀ b m, b ≠ a → h b = some m → h' b = some m
theorem Kp.refl (a : Addr) (h : Mh) : Kp a h h := fun _ _ _ e => e
theorem Kp.trans {a : Addr} {h h1 h2 : Mh} (x : Kp a h h1) (y : Kp a h1 h2) : Kp a h h2 := fun b m n e => y b m n (x b m n e)
theorem Kp.put (a : Addr) (h : Mh) (o : Mo) : Kp a h (mput h a o) := fun b m n e => by rw [mput_ne n]; exact e
theorem Kp.new {a p : Addr} {h h' : Mh} (e : h p = none) (o : Mo) (k : Kp a h h') : Kp a h (mput h' p o) := fun b m n e2 => by
  by_cases z : b = p
  · rw [z, e] at e2; cases e2
  · rw [mput_ne z]; exact k b m n e2
theorem Kp.del {a p : Addr} {h : Mh} {h' : Mh} (e : h p = none) (k : Kp a h h') : Kp a h (mdel h' p) := fun b m n e2 => by
  by_cases z : b = p
  · rw [z, e] at e2; cases e2
  · rw [mdel_ne z]; exact k b m n e2
theorem Feed.del {h : Mh} {a p : Addr} {n : Nat} (f : Feed h a n) (ne : a ≠ p) : Feed (mdel h p) a n := let ⟨c, x, y, e, q⟩ := f; ⟨c, x, y, (by rw [mdel_ne ne]; exact e), q⟩
theorem Feed.ne {h : Mh} {a p : Addr} {n : Nat} (f : Feed h a n) (e : h p = none) : p ≠ a := fun z => by
  obtain ⟨_, _, _, e2, _⟩ := f
  rw [z, e2] at e; cases e
/-- only a has changed -/
def Off (a : Addr) (h h' : Mh) : Prop := ∀ p, p ≠ a → h' p = h p
theorem Off.refl (a : Addr) (h : Mh) : Off a h h := fun _ _ => rfl
theorem Off.trans {a : Addr} {h h1 h2 : Mh} (x : Off a h h1) (y : Off a h1 h2) : Off a h h2 := fun p n => (y p n).trans (x p n)
theorem Off.put (a : Addr) (h : Mh) (o : Mo) : Off a h (mput h a o) := fun _ n => mput_ne n
theorem dats_ints : ∀ xs : List Int, dats (xs.map Dv.int) = true
  | [] => rfl
  | x :: xs => by simp [dats_ints xs]
theorem deps_ints : ∀ xs : List Int, deps (xs.map Dv.int) = 0
  | [] => rfl
  | x :: xs => by simp [deps_ints xs]
@[simp] theorem dats_strs : ∀ xs : List Str, dats (xs.map Dv.str) = true
  | [] => rfl
  | x :: xs => by simp [dats_strs xs]
@[simp] theorem deps_strs : ∀ xs : List Str, deps (xs.map Dv.str) = 0
  | [] => rfl
  | x :: xs => by simp [deps_strs xs]
theorem atI_ok {α : Type} {xs : List α} {i : Int} (h0 : 0 ≤ i) (h : i < xs.length) : ∃ x, atI xs i = some x ∧ x ∈ xs := by
  have e : ixN xs.length i = some i.toNat := by
    unfold ixN
    split <;> simp_all <;> omega
  have hl : i.toNat < xs.length := by omega
  refine ⟨xs[i.toNat], ?_, List.getElem_mem hl⟩
  unfold atI
  rw [e]
  exact List.getElem?_eq_getElem hl
end G3


namespace G3
open PySem PySem.Spec PyProof.Rows L2
/-! ### enumerate(tuple) -/
theorem meets_enumT (l : Addr) (items : Array Value) :
    Meets (Builtin.«enumerate.__new__» ⟨[.type "enumerate", .ref l], []⟩) (fun _ R s => s.heap.IsTuple l items ∧
      R (.ok (.ret (.ref (s.heap.push { cls := .type "tuple_iterator", data := .fields #[.ref l, .int 0 0] }).objs.size)))
        { s with heap := (s.heap.push { cls := .type "tuple_iterator", data := .fields #[.ref l, .int 0 0] }).push { cls := .type "enumerate", data := .fields #[.none, .bool false, .ref s.heap.objs.size, rawInt 0, .none, .none] } }) :=
  .of_wp fun prog w A R s h => by
    obtain ⟨hp, g, d, tk, os⟩ := s
    obtain ⟨hl, h⟩ := h
    have hsub := sub_enumerate
    have hL : Heap.IsTuple (Shared.heap ⟨hp, g, d, tk, os⟩) l items := hl
    wp_walk using wpAny_pyIter_tuple hL
    refine wpAny_stack_any fun st => wpAny_pure ?_
    split
    · rename_i c _ _ _ _ _
      cases (c == Value.type "enumerate")
      · wp_walk using wpAny_pyIter_tuple hL
        exact ⟨_, rfl, h⟩
      · wp_walk using wpAny_pyIter_tuple hL
        exact ⟨_, rfl, h⟩
    · wp_walk using wpAny_pyIter_tuple hL
      exact ⟨_, rfl, h⟩
section
variable {prog : Program} {w : World} {A : Around} {E : Value → Shared → Prop} {s : Shared}
theorem call_enumT {l : Addr} {items : Array Value} {Q : Value → Shared → Prop} (hL : s.heap.IsTuple l items)
    (h : ∀ h', IsEnum h' (s.heap.objs.size + 1) s.heap.objs.size 0 .none → h'.IsTupleIter s.heap.objs.size l 0 → h'.objs.size = s.heap.objs.size + 2 →
      (∀ b o, s.heap.get? b = some o → h'.get? b = some o) → Q (.ref (s.heap.objs.size + 1)) { s with heap := h' }) :
    wpAny (model prog w) A (call (.type "enumerate") [.ref l]) Q E s := by
  refine callType_new F.called_enumerate (by decide) (F.typeCall_enumerate_1 _) (F.newCall_enumerate_1 _) (fun obj => F.args_object_init_2 obj _) F.entry_enumerate_new
    (meets_enumT l items) ⟨hL, ?_⟩
  have hz : (s.heap.push { cls := .type "tuple_iterator", data := .fields #[.ref l, .int 0 0] }).objs.size = s.heap.objs.size + 1 := Heap.size_push ..
  show _ ∧ _
  rw [hz]
  have he : IsEnum ((s.heap.push { cls := .type "tuple_iterator", data := .fields #[.ref l, .int 0 0] }).push
      { cls := .type "enumerate", data := .fields #[.none, .bool false, .ref s.heap.objs.size, rawInt 0, .none, .none] }) (s.heap.objs.size + 1) s.heap.objs.size 0 .none := by
    have := Heap.get?_push_size (s.heap.push { cls := .type "tuple_iterator", data := .fields #[.ref l, .int 0 0] })
      (o := { cls := .type "enumerate", data := .fields #[.none, .bool false, .ref s.heap.objs.size, rawInt 0, .none, .none] }) rfl
    rw [hz] at this; exact this
  refine ⟨⟨_, he, rfl⟩, h _ he ⟨_, Heap.get?_push_of_some _ (Heap.get?_push_size _ rfl), rfl, rfl⟩ (by rw [Heap.size_push, hz]) fun b o x => Heap.get?_push_of_some _ (Heap.get?_push_of_some _ x)⟩
end
section
variable {prog : Program} {w : World} {A : Around} {E : Value → Shared → Prop} {s : Shared}
theorem next_enumT_end {e it l : Addr} {i : Nat} {c : Int} {items : Array Value} {old : Value} {Q : Option Value → Shared → Prop} (hh : A.handled = none) (he : IsEnum s.heap e it c old) (hit : s.heap.IsTupleIter it l i) (hl : s.heap.IsTuple l items) (hx : items[i]? = none)
    (hQ : ∀ h', Heap.ExtBut it s.heap h' → Q none { s with heap := h' }) : wpAny (model prog w) A (pyNext (.ref e)) Q E s := by
  have hT : s.TypeIs (.ref e) "enumerate" := ⟨_, he, rfl⟩
  unfold pyNext
  refine wpAny_bind (wpAny_attempt (wpAny_callSpecial?_slot (name := Str.ofString "__next__") hT F.slot_enumerate_next
    (wpAny_call_entry F.slot_enumerate_next hT F.entry_enumerate_next ?_ (F.args_enumerate_next_1 _))))
  show wpAny _ _ (field (.ref e) 2 >>= _) _ _ _
  refine wpAny_bind (wpAny_field he rfl (x := .ref it) rfl ?_)
  refine wpAny_bind (wpAny_nextOf_tuple_end hh hit hl hx fun h' x he' hx' => ?_)
  obtain ⟨o, ho, hc⟩ := hx'
  refine wpAny_bind (wpAny_isInstance (T := "StopIteration") (b := true) ⟨o, ho, hc⟩ isSubtype_stop ?_)
  exact wpAny_pure (hQ _ he')
end
/-- the tuple at a as it stands at each turn, each item in a new pair -/
def IteT (K : PySem.W.Frag) (a : Addr) : It :=
  ⟨fun i H => ∃ (xs : List V) (x : V), SqT K H a xs ∧ xs[i]? = some x, fun i H v H' => ∃ T x, v = .ref T ∧ H T = none ∧ H' = upd H T (.tup [.int (i : Nat), x]) ∧ ∀ xs, SqT K H a xs → xs[i]? = some x, fun i H => ∃ xs : List V, SqT K H a xs ∧ xs.length ≤ i⟩
theorem turn_enumT {P : Program} {w : World} {K : PySem.W.Frag} {elts : List Expr} {kk : Nat} {tpos : Pos} (a e it : Addr) :
    Turn P w K (.Tuple elts kk tpos) (IteT K a) [e, it] e (fun i h => (∃ old, IsEnum h e it ((i : Nat) : Int) old) ∧ h.IsTupleIter it a i ∧ e ≠ it ∧ e ≠ a ∧ a ≠ it) where
  mem := by simp
  obj := fun i h st b hb => by
    obtain ⟨⟨old, he⟩, ⟨o, ho, hc, hd⟩, _⟩ := st
    have e' : b = e ∨ b = it := by simpa using hb
    rcases e' with z | z
    · rw [z]; exact ⟨_, he, fun v q => nomatch q⟩
    · rw [z]; exact ⟨o, ho, fun v q => by rw [hd] at q; cases q⟩
  keep := fun i h h' st k => let ⟨⟨old, he⟩, hi, hne⟩ := st; ⟨⟨old, k e (by simp) _ he⟩, hi.at fun o q => k it (by simp) o q, hne⟩
  item := by
    intro X hP hw hK hc i pins s σ H E I hf st hg
    subst hP hw hK
    obtain ⟨⟨old, he⟩, hit, hne, hea, hai⟩ := st
    obtain ⟨xs, x, hq, hx⟩ := hg
    obtain ⟨its, rv, p, hz⟩ := I.tuple hq
    obtain ⟨u, hu, ru⟩ := rv.get hx
    have hel : e < s.heap.objs.size := Heap.lt_size he
    have hil : it < s.heap.objs.size := by obtain ⟨_, q, _⟩ := hit; exact Heap.lt_size q
    have hlt : i < its.toArray.size := by
      rw [List.size_toArray, ← rv.length]
      exact (List.getElem?_eq_some_iff.1 hx).1
    refine wpAny_pyNext_enum_itemD (Draws.tuple (A := X.A.in1) (I.ok.hd hc) it a hai its.toArray) he ⟨hit, p⟩ hlt hne (by simp [hne, hea]) fun x' h' tk hx' ho st' hT hsz hk => ?_
    have eu : x' = u := by
      have : its.toArray[i]? = some u := by simpa using hu
      rw [this] at hx'
      exact (Option.some.inj hx').symm
    subst eu
    refine ⟨_, rfl, wpAny_letOwnedTupleGo_enum (s := { s with heap := h', toks := tk + 1 }) ho fun h'' he' sb => ?_⟩
    have hT2 : h''.get? s.heap.objs.size = some { cls := .type "tuple", data := .seq #[.int i tk, x'] } := (sb.2 _ (Nat.ne_of_gt hel)).trans hT
    have new : ObjOk X.prog X.w (upd H s.heap.objs.size (.tup [.int (i : Nat), x])) h'' s.heap.objs.size (.tup [.int (i : Nat), x]) :=
      ⟨by show 2 ≤ sizeLine; decide, [.int i tk, x'], .cons ⟨_, rfl⟩ (.cons ru .nil), ⟨_, hT2, rfl, _, rfl⟩⟩
    have I1 : Inv X pins σ (upd H s.heap.objs.size (.tup [.int (i : Nat), x])) { s with heap := h'', toks := tk + 1 } :=
      I.turnedNew (ch := [e, it]) (fun b ob hb q => (sb.2 b (fun z => hb (by simp [z]))).trans (hk b ob (fun z => hb (by simp [z])) (fun z => hb (by simp [z])) q)) hf (Nat.le_refl _) new
    refine ⟨.ref s.heap.objs.size, _, I1, rfl, ⟨_, x, rfl, I.hok.fresh (Nat.le_refl _), rfl, fun ys hy => by rw [I.tuple_inj hy hq]; exact hx⟩, ⟨⟨x', ?_⟩, st'.1.at fun o q => (sb.2 it (Ne.symm hne)).trans q, hne, hea, hai⟩, fun b hb => ?_⟩
    · have e1 : ((i + 1 : Nat) : Int) = (i : Int) + 1 := by omega
      rw [e1]; exact he'
    · have hb' : b < s.heap.objs.size := by
        have e' : b = e ∨ b = it := by simpa using hb
        rcases e' with z | z
        · rw [z]; exact hel
        · rw [z]; exact hil
      rw [upd_ne (Nat.ne_of_lt hb')]
      exact (hf b hb).1
  done := by
    intro X hP hw hK hc i pins s σ H E I hf st hg
    subst hP hw hK
    obtain ⟨⟨old, he⟩, hit, hne, hea, hai⟩ := st
    obtain ⟨xs, hq, hx⟩ := hg
    obtain ⟨its, rv, p, hz⟩ := I.tuple hq
    obtain ⟨f0, f1, f2, f3, f4, f5⟩ := hf it (by simp)
    have hl := rv.length
    exact next_enumT_end (I.ok.hd hc) he hit p (by simp; omega) fun h' eb => ⟨rfl, I.turned (t' := s.toks) (fun b o hb q => eb b o hb q) f0 f1 f3 f4 f5⟩
  self := fun A i s Q E st h => let ⟨⟨_, he⟩, _⟩ := st; wpAny_pyIter_enum he h

/-- enumerate of a list or a tuple -/
def iEnumA (K : PySem.W.Frag) (ta : TA) : TI := fun σ H R => ta σ H fun vs H1 => (∃ a xs, vs = [.ref a] ∧ SqL K H1 a xs ∧ R (Ite K a) H1) ∨ ∃ a xs, vs = [.ref a] ∧ SqT K H1 a xs ∧ R (IteT K a) H1
theorem pi_enumA {X : Cx} {e : Expr} {ta : TA} {p pos tpos : Pos} {elts : List Expr} {kk : Nat} (hg : Gl X "enumerate") (hm : X.mg "enumerate" = none) (ha : PA X [e] ta) (hs : starEach [e] X.env = [(false, eval e X.env)] := by rfl) :
    PI X (.Tuple elts kk tpos) (.Call (.Name "enumerate" p) [e] [] pos) (iEnumA X.K ta) := by
  refine ⟨fun pins s σ H R I h => ?_⟩
  refine Call_ (ld_blt I hg hm boot_enumerate (PyProof.Rows.callWith_type1 (thn (ha.run pos pins s σ H _ I h) fun us s1 ⟨vs, H1, I1, r1, q1⟩ => ?_) hs rfl))
  have foot : ∀ b, b ∈ [s1.heap.objs.size + 1, s1.heap.objs.size] → s1.heap.objs.size ≤ b := fun b hb => by
    have e' : b = s1.heap.objs.size + 1 ∨ b = s1.heap.objs.size := by simpa using hb
    rcases e' with z | z
    · rw [z]; exact Nat.le_add_right _ _
    · rw [z]; exact Nat.le_refl _
  rcases q1 with ⟨a, xs, ex, hq, q⟩ | ⟨a, xs, ex, hq, q⟩
  · subst ex
    cases r1 with
    | cons r rr =>
      cases rr
      cases r
      obtain ⟨its, rv, p', hz⟩ := I1.list hq
      refine call_enumerate_list p'.isList fun h' he hit hsz hk => wpAny_pyIter_enum he ?_
      have I2 : Inv X pins σ H1 { s1 with heap := h' } := I1.kept (t' := s1.toks) hk
      exact ⟨s1.heap.objs.size + 1, [s1.heap.objs.size + 1, s1.heap.objs.size], _, _, H1, rfl, I2, turn_enum a (s1.heap.objs.size + 1) s1.heap.objs.size, ⟨⟨.none, he⟩, hit, Nat.succ_ne_self _⟩, fun b hb => I1.fpOk (foot b hb) (I1.hok.fresh (foot b hb)), q⟩
  · subst ex
    cases r1 with
    | cons r rr =>
      cases rr
      cases r
      obtain ⟨its, rv, p', hz⟩ := I1.tuple hq
      have hal : a < s1.heap.objs.size := by obtain ⟨_, e, _⟩ := id p'; exact Heap.lt_size e
      have n1 : s1.heap.objs.size + 1 ≠ a := fun z => by have z : s1.heap.objs.size + 1 = a := z; have hal : a < s1.heap.objs.size := hal; exact absurd hal (by rw [← z]; exact Nat.not_lt.2 (Nat.le_succ _))
      have n2 : a ≠ s1.heap.objs.size := fun z => by have hal : a < s1.heap.objs.size := hal; exact Nat.lt_irrefl _ (z ▸ hal)
      refine call_enumT (show s1.heap.IsTuple a its.toArray from p') fun h' he hit hsz hk => wpAny_pyIter_enum he ?_
      have I2 : Inv X pins σ H1 { s1 with heap := h' } := I1.kept (t' := s1.toks) hk
      exact ⟨s1.heap.objs.size + 1, [s1.heap.objs.size + 1, s1.heap.objs.size], _, _, H1, rfl, I2, turn_enumT a (s1.heap.objs.size + 1) s1.heap.objs.size,
        ⟨⟨.none, he⟩, hit, Nat.succ_ne_self _, n1, n2⟩, fun b hb => I1.fpOk (foot b hb) (I1.hok.fresh (foot b hb)), q⟩
def numd : Nat → List Dv → List Dv
  | _, [] => []
  | i, d :: ds => .tup [.int i, d] :: numd (i + 1) ds
theorem numd_len : ∀ (i : Nat) (ds : List Dv), (numd i ds).length = ds.length
  | _, [] => rfl
  | i, d :: ds => by rw [numd, List.length_cons, List.length_cons, numd_len]
theorem numd_get : ∀ (ds : List Dv) (i k : Nat), (numd i ds)[k]? = (ds[k]?).map fun d => .tup [.int ((i + k : Nat) : Int), d]
  | [], i, k => by simp [numd]
  | d :: ds, i, 0 => by simp [numd]
  | d :: ds, i, k + 1 => by
    rw [numd, List.getElem?_cons_succ, List.getElem?_cons_succ, numd_get ds (i + 1) k]
    have : i + 1 + k = i + (k + 1) := by omega
    rw [this]
/-- what enumerate walks -/
def enumOf : Dv → Option (List Dv)
  | .lst ds => some ds
  | .tup ds => some ds
  | _ => none
@[simp] theorem enumOf_lst {ds : List Dv} : enumOf (.lst ds) = some ds := rfl
@[simp] theorem enumOf_tup {ds : List Dv} : enumOf (.tup ds) = some ds := rfl
@[simp] def gEnum (gs : GA) : GI := fun ρ h R => gs ρ h fun es h1 => ∃ d ds, es = [d] ∧ enumOf d = some ds ∧ R (numd 0 ds) h1
theorem enum_yld {K : PySem.W.Frag} {w' : Wd} {i : Nat} {y : V} {T : Addr} {ds : List Dv} {d e : Dv} (r' : Rel K w') (hT : w'.H T = none) (hd : (numd 0 ds)[i]? = some d) (he : ds[i]? = some e) (re : Rp K w' e y) :
    ∃ w'' : Wd, w''.H = upd w'.H T (.tup [.int (i : Nat), y]) ∧ w''.h = w'.h ∧ Rel K w'' ∧ Ext w' w'' ∧ Rp K w'' d (.ref T) := by
  rw [numd_get, he] at hd
  cases hd
  obtain ⟨r2, e2, p2⟩ := new_tup (p := T) r' (.cons (.int (i : Int)) (.cons re .nil)) hT
  have ei : ((0 + i : Nat) : Int) = (i : Int) := by omega
  rw [ei]
  exact ⟨⟨w'.h, upd w'.G T (.tup [.int (i : Int), y]), upd w'.H T (.tup [.int (i : Int), y])⟩, rfl, rfl, r2, e2, p2⟩
theorem i_enum {X : Cx} {es : List Expr} {kk : Nat} {a : Expr} {p pos tpos : Pos} {gs : GA} (hg : Gl X "enumerate") (hm : X.mg "enumerate" = none) (ha : A3 X [a] gs) (hs : starEach [a] X.env = [(false, eval a X.env)] := by rfl) :
    I3 X (.Tuple es kk tpos) (.Call (.Name "enumerate" p) [a] [] pos) (gEnum gs) := PIimp (pi_enumA hg hm ha hs) fun σ H R ⟨ρ, w, R3, e, gd, q, out⟩ => by
  subst e
  refine ⟨ρ, w, _, rfl, gd, q, fun ds w1 vs ⟨d, fs, e2, hw, q1⟩ r1 e1 p1 => ?_⟩
  subst e2
  obtain ⟨x, e3, px⟩ := p1.one
  subst e3
  have lenN := numd_len 0 fs
  cases px with
  | lst t ra =>
    cases hw
    refine .inl ⟨_, _, rfl, r1.sqL t, out _ w1 _ q1 r1 e1 ⟨fun i w' e' r' hi => ?_, fun i w' x H'' e' r' ⟨T, y, ev, hT, eH, hx⟩ d hd => ?_, fun w' e' r' => ?_⟩⟩
    · rw [lenN] at hi
      exact ⟨_, _, r'.sqL (t.ext e'.fz), List.getElem?_eq_getElem (by rw [← ra.length]; exact hi)⟩
    · subst ev eH
      have hy := hx _ (r'.sqL (t.ext e'.fz))
      obtain ⟨e, he, re⟩ := ra.get hy
      exact enum_yld r' hT hd he (Rp.fz e'.fz re)
    · exact ⟨_, r'.sqL (t.ext e'.fz), by rw [lenN, ra.length]; exact Nat.le_refl _⟩
  | tup t ra =>
    cases hw
    refine .inr ⟨_, _, rfl, r1.sqT t, out _ w1 _ q1 r1 e1 ⟨fun i w' e' r' hi => ?_, fun i w' x H'' e' r' ⟨T, y, ev, hT, eH, hx⟩ d hd => ?_, fun w' e' r' => ?_⟩⟩
    · rw [lenN] at hi
      exact ⟨_, _, r'.sqT (t.ext e'.fz), List.getElem?_eq_getElem (by rw [← ra.length]; exact hi)⟩
    · subst ev eH
      have hy := hx _ (r'.sqT (t.ext e'.fz))
      obtain ⟨e, he, re⟩ := ra.get hy
      exact enum_yld r' hT hd he (Rp.fz e'.fz re)
    · exact ⟨_, r'.sqT (t.ext e'.fz), by rw [lenN, ra.length]; exact Nat.le_refl _⟩
  | _ => cases hw
/-! ### min, max, -i, extend -/
def cMin : DC := fun ds h Q => ∃ i j, ds = [.int i, .int j] ∧ Q (.int (if j < i then j else i)) h
def cMax : DC := fun ds h Q => ∃ i j, ds = [.int i, .int j] ∧ Q (.int (if j > i then j else i)) h
@[simp] theorem cMin_mk {i j : Int} {h : Mh} {Q : Kd} : cMin [.int i, .int j] h Q ↔ Q (.int (if j < i then j else i)) h := ⟨fun ⟨_, _, e, q⟩ => by cases e; exact q, fun q => ⟨_, _, rfl, q⟩⟩
@[simp] theorem cMax_mk {i j : Int} {h : Mh} {Q : Kd} : cMax [.int i, .int j] h Q ↔ Q (.int (if j > i then j else i)) h := ⟨fun ⟨_, _, e, q⟩ => by cases e; exact q, fun q => ⟨_, _, rfl, q⟩⟩
theorem c_min {X : Cx} (hc : X.calm = true) : C3 X (.builtin "min") cMin := by
  intro pins s σ H xs us Q I rx h
  obtain ⟨ds, w, Q3, e, r, ra, ⟨i, j, rfl, q⟩, out⟩ := h
  subst e
  obtain ⟨x, y, rfl, p1, p2⟩ := ra.two
  cases p1
  cases p2
  exact call_min2 hc pins s σ w.H _ us Q I rx ⟨i, j, rfl, out.go r (Ext.refl w) (.int _) q⟩
theorem c_max {X : Cx} (hc : X.calm = true) : C3 X (.builtin "max") cMax := by
  intro pins s σ H xs us Q I rx h
  obtain ⟨ds, w, Q3, e, r, ra, ⟨i, j, rfl, q⟩, out⟩ := h
  subst e
  obtain ⟨x, y, rfl, p1, p2⟩ := ra.two
  cases p1
  cases p2
  exact call_max2 hc pins s σ w.H _ us Q I rx ⟨i, j, rfl, out.go r (Ext.refl w) (.int _) q⟩
@[simp] def rNegD : Dv → Mh → Kd → Prop := fun a h Q => ∃ i, a = .int i ∧ Q (.int (-i)) h
theorem u_neg {X : Cx} : UnR X (unaryOp .USub) (lo1 X.K rNegD) := by
  intro pins s σ H x v Q I rx h
  obtain ⟨a, w, Q3, e, r, p, ⟨i, rfl, q⟩, out⟩ := h
  subst e
  cases p
  exact un_neg pins s σ w.H _ v Q I rx ⟨i, rfl, out.go r (Ext.refl w) (.int _) q⟩
theorem e_un {X : Cx} {op : UnaryOp} {r : Dv → Mh → Kd → Prop} {a : Expr} {ga : GE} {pos : Pos} (ho : UnR X (unaryOp op) (lo1 X.K r)) (ha : E3 X a ga) : E3 X (.UnaryOp op a pos) (gUn r ga) := PEimp (pe_un ho ha) fun σ H Q ⟨ρ, w, Q3, e, gd, q, out⟩ => by
  subst e
  exact ⟨ρ, w, _, rfl, gd, q, fun d w1 v q1 r1 e1 p1 => ⟨d, w1, Q3, rfl, r1, p1, q1, out.ext e1⟩⟩

/-! ### xs.extend(ys) -/
theorem list_extendW (l : Addr) (items : Array Value) (n : Nat) (b : Addr) (items2 : Array Value) (n2 : Nat) (dd2 : Option Addr) (sl2 : Array (Option Value)) (hc0 : ¬(!items.isEmpty && Builtin.List.listTooLong (items.size + items2.size)) = true) (hc1 : items.size ≤ sizeLine) (hs2 : items.size + items2.size ≤ sizeLine + 1) :
    Meets (Builtin.«list.extend» ⟨[.ref l, .ref b], []⟩) (fun _ R s => s.heap.get? l = some { cls := .type "list", dict := none, data := .seq items n, slots := #[] } ∧ s.heap.get? b = some { cls := .type "list", dict := dd2, data := .seq items2 n2, slots := sl2 } ∧ R (.ok (.ret Value.none)) { s with heap := s.heap.update l (Obj.mapSeq fun x => x ++ items2), toks := s.toks }) :=
  .of_wp fun prog w A R s h => by
    obtain ⟨hp, g, d, tk, os⟩ := s
    obtain ⟨hl, hb, h⟩ := h
    have f1 := AutoSeq1.idx_int
    have f2 := AutoSeq1.sub_tuple_tuple
    have f3 := AutoSeq1.sub_list_list
    have f4 := AutoSeq1.sub_tuple_list
    have f5 := AutoSeq1.sub_list_tuple
    have hz' : (items ++ items2).size ≤ sizeLine + 1 := by rw [Array.size_append]; exact hs2
    wp_walk using (wpAny_updateSeq hl rfl (hz := hc1) (_hz' := hz')), AutoSeq1.wpAny_loadPart' hl, AutoSeq1.wpAny_loadPart' hb
    exact ⟨_, rfl, h⟩
def mExtend : DM := fun d ds h Q => ∃ a xs y ys, d = .ref a ∧ ds = [y] ∧ h a = some (.lst xs) ∧ lstOf h y = some ys ∧ xs.length + ys.length ≤ sizeLine ∧ Q .non (mput h a (.lst (xs ++ ys)))
@[simp] theorem mExtend_mk {a : Addr} {ys : List Dv} {h : Mh} {Q : Kd} : mExtend (.ref a) [.lst ys] h Q ↔ ∃ xs, h a = some (.lst xs) ∧ xs.length + ys.length ≤ sizeLine ∧ Q .non (mput h a (.lst (xs ++ ys))) := by
  constructor
  · rintro ⟨_, xs, _, _, e, e2, e3, e4, e5, q⟩
    cases e; cases e2; cases e4
    exact ⟨xs, e3, e5, q⟩
  · rintro ⟨xs, e3, e5, q⟩
    exact ⟨_, xs, _, _, rfl, rfl, e3, rfl, e5, q⟩
theorem m_extend {X : Cx} : M3 X "list.extend" mExtend := by
  intro pins s σ H x xs v us Q I rx rs h
  obtain ⟨d, ds, w, Q3, e, r, p, pa, ⟨a, zs, y, ys, rfl, rfl, hh, hy, hz, q⟩, out⟩ := h
  subst e
  cases p
  cases rx
  obtain ⟨t, rfl, pt⟩ := pa.one
  obtain ⟨b, vs, rfl, sq, rb⟩ := lstOf_at r pt hy
  obtain ⟨ws, hG, hH, ra⟩ := r.mlst hh
  obtain ⟨u, rfl, ru⟩ := rs.one
  cases ru
  obtain ⟨z, its, n, rv, hl, e⟩ := I.lstM hH
  obtain ⟨its2, rv2, ⟨⟨c2, d2, t2, sl2⟩, n2, ho2, hc2, hd2, ht2⟩, _⟩ := I.list sq
  simp only at hc2 ht2
  subst hc2 ht2
  have z1 := ra.length
  have z2 := rb.length
  have z3 := rv.length
  have z4 := rv2.length
  have hsz : its.toArray.size + its2.toArray.size ≤ sizeLine := by rw [List.size_toArray, List.size_toArray]; omega
  have hlong : ¬ (!its.toArray.isEmpty && Builtin.List.listTooLong (its.toArray.size + its2.toArray.size)) = true := by
    rw [notLongL hsz, Bool.and_false]
    exact Bool.false_ne_true
  refine call_meets F.slot_list_extend ⟨_, e, rfl⟩ F.entry_list_extend (F.args_list_extend_2 _ _)
    (list_extendW a its.toArray n b its2.toArray n2 d2 sl2 hlong (by rw [List.size_toArray]; omega) (by omega)) ⟨e, ho2, ?_⟩
  obtain ⟨r2, e2⟩ := put_lst (p := a) r (ra.append rb) (.inr ⟨_, hh, id⟩)
  refine ⟨.non, _, I.lset (its' := its ++ its2) hH e (by simp) (rv.append rv2) ?_, rfl, out.go r2 e2 .non q⟩
  rw [List.length_append]
  omega

/-! ### xs[::-1] -/
section
variable {prog : Program} {w : World} {A : Around} {E : Value → Shared → Prop} {s : Shared}
theorem places_rev (n : Nat) : Builtin.Slice.sliceAdjust none none (-1) (n : Int) = ((n : Int) - 1, -1) ∧ Builtin.Slice.slicePlaces ((n : Int) - 1) (-1) (-1) = n := by
  refine ⟨rfl, ?_⟩
  unfold Builtin.Slice.slicePlaces
  rw [if_neg (by decide)]
  by_cases h : ((n : Int) - 1) > -1
  · rw [if_pos h]
    have : ((n : Int) - 1 - -1 - 1) / - -1 + 1 = n := by
      rw [show (- -1 : Int) = 1 from rfl, Int.ediv_one]
      omega
    rw [this]
    simp
  · rw [if_neg h]
    have : n = 0 := by omega
    subst this
    rfl
theorem fm_congr {α β : Type} (f g : α → Option β) : ∀ (l : List α), (∀ x ∈ l, f x = g x) → l.filterMap f = l.filterMap g
  | [], _ => rfl
  | a :: l, h => by rw [List.filterMap_cons, List.filterMap_cons, h a List.mem_cons_self, fm_congr f g l fun x hx => h x (List.mem_cons_of_mem _ hx)]
theorem pick_rev (xs : Array Value) : ((List.range xs.size).filterMap fun (k : Nat) => xs[((xs.size : Int) - 1 + (k : Int) * -1).toNat]?).toArray = xs.toList.reverse.toArray := by
  congr 1
  have e : ((List.range xs.size).filterMap fun (k : Nat) => xs[((xs.size : Int) - 1 + (k : Int) * -1).toNat]?) = (List.range xs.size).filterMap (fun k => xs.toList.reverse[k]?) := by
    refine fm_congr _ _ _ fun k hk => ?_
    have hk := List.mem_range.mp hk
    have e2 : ((xs.size : Int) - 1 + (k : Int) * -1).toNat = xs.size - 1 - k := by omega
    rw [e2, List.getElem?_reverse (by simpa using hk)]
    simp
  rw [e]
  have : ∀ (l : List Value), (List.range l.length).filterMap (fun k => l[k]?) = l := fun l => by
    induction l with
    | nil => rfl
    | cons a l ih =>
      rw [List.length_cons, List.range_succ_eq_map, List.filterMap_cons, List.filterMap_map]
      simp only [List.getElem?_cons_zero]
      congr 1
  have h2 := this xs.toList.reverse
  rwa [List.length_reverse, Array.length_toList] at h2
theorem getItem_tuple_rev {t sl : Addr} {items : Array Value} {vs : Value} {Q : Value → Shared → Prop} (ht : IsTup s.heap t items) (hs : s.heap.IsSliceOf sl .none .none vs) (ps : IsPart vs (some (-1)))
    (h : Q (.ref s.heap.objs.size) { s with heap := s.heap.push { cls := .type "tuple", data := .seq items.toList.reverse.toArray } }) (hsz : items.size ≤ sizeLine) : wpAny (model prog w) A (getItem (.ref t) (.ref sl)) Q E s := by
  have htake : sizeOk (.seq items.toList.reverse.toArray) := by
    show items.toList.reverse.toArray.size ≤ sizeLine
    rw [List.size_toArray, List.length_reverse, Array.length_toList]
    exact hsz
  obtain ⟨os, hos, hcs, hds⟩ := id hs
  have hTs : s.TypeIs (.ref sl) "slice" := ⟨os, hos, hcs⟩
  unfold getItem
  try with_reducible refine wpAny_holding ?_
  first | refine wpAny_bind (wpAny_pure ?_) | skip
  refine wpAny_bind (wpAny_sequenceKey ht.typeIs (by decide) ?_)
  refine wpAny_bind (wpAny_callSpecial?_slot (name := Str.ofString "__getitem__") ht.typeIs PyProof.Rows.slot_tuple_getitem
    (wpAny_call_entry PyProof.Rows.slot_tuple_getitem ht.typeIs PyProof.Rows.entry_tuple_getitem ?_ (PyProof.Rows.args_tuple_getitem _ _)))
  show wpAny _ _ (Builtin.Tuple.tupleItemsOf (.ref t) >>= _) _ _ s
  refine wpAny_bind (PyProof.Rows.tupleItemsOf_ ht ?_)
  refine wpAny_bind (wpAny_typeOf hTs ?_)
  rw [if_pos (by decide)]
  have app : ∀ {A' : Around} {E' : Value → Shared → Prop} {Q' : Int × Int × Nat → Shared → Prop}, Q' ((items.size : Int) - 1, -1, items.size) s → wpAny (model prog w) A' (Builtin.Slice.sliceApplied (.ref sl) (pure (items.size : Int))) Q' E' s := fun q => by
    unfold Builtin.Slice.sliceApplied Builtin.Slice.sliceFields
    refine wpAny_bind (wpAny_bind (wpAny_field hos hds (x := .none) rfl (wpAny_bind (wpAny_field hos hds (x := .none) rfl (wpAny_bind (wpAny_field hos hds (x := vs) rfl (wpAny_pure ?_)))))))
    refine wpAny_bind (HT.slicePart_ ps ?_)
    show wpAny _ _ (if ((-1 : Int) == 0) = true then _ else _) _ _ s
    rw [if_neg (by decide)]
    refine wpAny_bind (HT.slicePart_ .none (wpAny_bind (HT.slicePart_ .none (wpAny_bind (wpAny_pure ?_)))))
    show wpAny _ _ (pure ((items.size : Int) - 1, (-1 : Int), Builtin.Slice.slicePlaces ((items.size : Int) - 1) (-1) (-1))) _ _ s
    rw [(places_rev items.size).2]
    exact wpAny_pure q
  refine wpAny_bind (app ?_)
  show wpAny _ _ (if (((items.size : Int) - 1) == 0 && (-1 : Int) == 1 && items.size == items.size) = true then _ else _) _ _ s
  rw [if_neg (by simp), pick_rev]
  first
    | exact wpAny_bind (m := Builtin.Tuple.tupleExact _) (wpAny_newObj_type (wpAny_pure ⟨_, rfl, wpAny_pure h⟩) htake)
    | exact wpAny_bind (m := Builtin.Tuple.tupleExact _) (wpAny_newObj_type (wpAny_bind (wpAny_pure (wpAny_pure ⟨_, rfl, wpAny_pure h⟩))) htake)
    | exact wpAny_bind (wpAny_bind (m := Builtin.Tuple.tupleExact _) (wpAny_newObj_type (wpAny_pure (wpAny_pure ⟨_, rfl, wpAny_pure h⟩)) htake))
    | exact wpAny_bind (wpAny_bind (m := Builtin.Tuple.tupleExact _) (wpAny_newObj_type (wpAny_pure ⟨_, rfl, wpAny_pure h⟩) htake))
end
section
variable {X : Cx}
def tRevA (K : PySem.W.Frag) (te : TE) : TE := fun σ H Q => te σ H fun x H1 => (∃ a xs, x = .ref a ∧ SqL K H1 a xs ∧ ∀ p, H1 p = none → Q (.ref p) (upd H1 p (.lst xs.reverse))) ∨ ∃ a xs, x = .ref a ∧ SqT K H1 a xs ∧ ∀ p, H1 p = none → Q (.ref p) (upd H1 p (.tup xs.reverse))
theorem pe_revA {e : Expr} {te : TE} {k : Nat} {p1 p2 p3 pos : Pos} (he : PE X e te) : PE X (.Subscript e (.Slice none none (some (.UnaryOp .USub (.Constant (.int 1) k p1) p2)) p3) pos) (tRevA X.K te) := by
  refine ⟨fun pins s σ H Q I h => ?_⟩
  refine Subscript_ (thn (he.run pins s σ H _ I h) fun v s1 ⟨x, H1, I1, r1, q1⟩ => ?_)
  have hst : PO X (some (.UnaryOp .USub (.Constant (.int 1) k p1) p2)) (tPart (tUn (rU fun i => .int (-i)) (tC (.int 1)))) := po_some (pe_un un_neg pe_int)
  refine wpAny_Slice (thn (po_none.run pins s1 σ H1 (fun o H2 => o = none ∧ H2 = H1) I1 ⟨rfl, rfl⟩) fun vl s2 ⟨l, H2, I2, pl, el, e2⟩ => ?_)
  subst el e2
  refine thn (po_none.run pins s2 σ H2 (fun o H3 => o = none ∧ H3 = H2) I2 ⟨rfl, rfl⟩) fun vu s3 ⟨u, H3, I3, pu, eu, e3⟩ => ?_
  subst eu e3
  refine thn (hst.run pins s3 σ H3 (fun o H4 => o = some (-1) ∧ H4 = H3) I3 ⟨1, rfl, -1, rfl, rfl, rfl⟩) fun vs s4 ⟨o, H4, I4, ps, eo, e4⟩ => ?_
  subst eo e4
  have I5 : L2.Inv X pins σ H4 { s4 with heap := s4.heap.push { cls := .type "slice", data := .fields #[vl, vu, vs] } } := I4.kept (t' := s4.toks) fun b ob q => Heap.get?_push_of_some _ q
  rcases q1 with ⟨a, xs, ex, hx, q⟩ | ⟨a, xs, ex, hx, q⟩
  · subst ex
    cases r1
    obtain ⟨its, r, ht, hz⟩ := I5.list hx
    have hlen := r.length
    show wpAny (model X.prog X.w) X.A (subscriptTail e (.Slice none none (some (.UnaryOp .USub (.Constant (.int 1) k p1) p2)) p3) (.ref a) (.ref s4.heap.objs.size)) (EP X pins σ Q) X.xe { s4 with heap := s4.heap.push { cls := .type "slice", data := .fields #[vl, vu, vs] } }
    refine tail_any (ops := [.ref a, .ref s4.heap.objs.size]) ht.isList.typeIs (PySem.slot_list_getitem.lookup) ?_ (by with_unfolding_all rfl)
    refine wpAny_getItem_list_slice ht.isList (Heap.IsSliceOf.new _ vl vu vs) pl pu ps (by decide) ?_ (by rw [List.size_toArray]; omega)
    rw [PySem.W.krv_pick]
    refine ⟨.ref _, _, I5.laid (t' := s4.toks) (o := .lst xs.reverse) (fun b ob q => Heap.get?_push_of_some _ q) (Nat.le_refl _) ?_, rfl, q _ (I5.hok.fresh (Nat.le_refl _))⟩
    exact ⟨by rw [List.length_reverse]; exact hz, _, 0, r.reverse, Heap.get?_push_size _ rfl⟩
  · subst ex
    cases r1
    cases pl
    cases pu
    obtain ⟨its, r, ht, hz⟩ := I5.tuple hx
    have hlen := r.length
    show wpAny (model X.prog X.w) X.A (subscriptTail e (.Slice none none (some (.UnaryOp .USub (.Constant (.int 1) k p1) p2)) p3) (.ref a) (.ref s4.heap.objs.size)) (EP X pins σ Q) X.xe { s4 with heap := s4.heap.push { cls := .type "slice", data := .fields #[.none, .none, vs] } }
    refine tail_any (ops := [.ref a, .ref s4.heap.objs.size]) ht.typeIs (PyProof.Rows.slot_tuple_getitem.lookup) ?_ (by with_unfolding_all rfl)
    refine getItem_tuple_rev ht (Heap.IsSliceOf.new _ .none .none vs) ps ?_ (by rw [List.size_toArray]; omega)
    refine ⟨.ref _, _, I5.laid (t' := s4.toks) (o := .tup xs.reverse) (fun b ob q => Heap.get?_push_of_some _ q) (Nat.le_refl _) ?_, rfl, q _ (I5.hok.fresh (Nat.le_refl _))⟩
    exact ⟨by rw [List.length_reverse]; exact hz, _, r.reverse, IsTup.new _ _⟩
theorem RpAll.reverse {K : PySem.W.Frag} {w : Wd} : ∀ {ds : List Dv} {xs : List V}, RpAll K w ds xs → RpAll K w ds.reverse xs.reverse
  | _, _, .nil => .nil
  | _, _, .cons a b => by
    rw [List.reverse_cons, List.reverse_cons]
    exact (RpAll.reverse b).append (.cons a .nil)
def rRevD : Dv → Mh → Kd → Prop := fun a h Q => match a with
  | .tup ds => Q (.tup ds.reverse) h
  | a => ∃ ds, lstOf h a = some ds ∧ Q (.lst ds.reverse) h
@[simp] theorem rRev_tup {ds : List Dv} {h : Mh} {Q : Kd} : rRevD (.tup ds) h Q ↔ Q (.tup ds.reverse) h := Iff.rfl
@[simp] theorem rRev_lst {ds : List Dv} {h : Mh} {Q : Kd} : rRevD (.lst ds) h Q ↔ Q (.lst ds.reverse) h := ⟨fun ⟨_, e, q⟩ => by cases e; exact q, fun q => ⟨_, rfl, q⟩⟩
@[simp] def gRev (g : GE) : GE := fun ρ h Q => g ρ h fun d h1 => rRevD d h1 Q
theorem e_rev {a : Expr} {ga : GE} {k : Nat} {p1 p2 p3 pos : Pos} (ha : E3 X a ga) : E3 X (.Subscript a (.Slice none none (some (.UnaryOp .USub (.Constant (.int 1) k p1) p2)) p3) pos) (gRev ga) := PEimp (pe_revA ha) fun σ H Q ⟨ρ, w, Q3, e, gd, q, out⟩ => by
  subst e
  refine ⟨ρ, w, _, rfl, gd, q, fun d w1 v q1 r1 e1 p1 => ?_⟩
  have lists : (∃ ds, lstOf w1.h d = some ds ∧ Q3 (.lst ds.reverse) w1.h) → (∃ a xs, v = .ref a ∧ SqL X.K w1.H a xs ∧ ∀ p, w1.H p = none → Q (.ref p) (upd w1.H p (.lst xs.reverse))) := fun ⟨ds, h1, q⟩ => by
    obtain ⟨p, xs, e, sq, ra⟩ := lstOf_at r1 p1 h1
    refine ⟨p, xs, e, sq, fun p np => ?_⟩
    obtain ⟨r2, e2, p2⟩ := new_lst (p := p) r1 ra.reverse np
    exact (out.ext e1).go r2 e2 p2 q
  cases d with
  | tup ds =>
    cases p1 with
    | tup t ra =>
      refine .inr ⟨_, _, rfl, r1.sqT t, fun p np => ?_⟩
      obtain ⟨r2, e2, p2⟩ := new_tup (p := p) r1 ra.reverse np
      exact (out.ext e1).go r2 e2 p2 q1
  | _ => exact .inl (lists q1)
end

/-! ### == of lists, frozen or not -/
section
variable {X : Cx}
def rEqR (neg : Bool) : D2 := fun a b h Q => ∃ xs ys, lstOf h a = some xs ∧ lstOf h b = some ys ∧ dats xs = true ∧ dats ys = true ∧ deps xs ≤ 59 ∧ Q (.bl (if neg then !deqs xs ys else deqs xs ys)) h
theorem rEqR_ref {neg : Bool} {a : Addr} {xs ys : List Dv} {h : Mh} {Q : Kd} (e : h a = some (.lst xs)) (d1 : dats xs = true) (d2 : dats ys = true) (d3 : deps xs ≤ 59) (q : Q (.bl (if neg then !deqs xs ys else deqs xs ys)) h) : rEqR neg (.ref a) (.lst ys) h Q := ⟨xs, ys, lstOf_refE.2 e, rfl, d1, d2, d3, q⟩
theorem reads_lst {pins : List (Addr × Obj)} {σ : L2.St} {H : Hp} {s : Shared} (I : L2.Inv X pins σ H s) {w : Wd} {a : Dv} {x : V} {v : Value} {xs : List Dv} (e : w.H = H) (r : Rel X.K w) (p : Rp X.K w a x) (rx : RelV x v) (h : lstOf w.h a = some xs) (ha : dats xs = true) : ∃ as, Reads s.heap v (.list (pys xs)) as := by
  subst e
  obtain ⟨b, ys, rfl, sq, ra⟩ := lstOf_at r p h
  exact Dp.reads I (.list (pys xs)) _ v (.lst sq (RpAll.dp r xs _ ra ha)) rx
theorem o_eqR (hu : X.A.units + 64 < cLine) : OpR X (compareOp .Eq) (lo2 X.K (rEqR false)) := by
  intro pins s σ H x y v u Q I rx ry h
  obtain ⟨a, b, w, Q3, e, r, pa, pb, ⟨xs, ys, h1, h2, d1, d2, d3, q⟩, out⟩ := h
  obtain ⟨as, r1⟩ := reads_lst I e r pa rx h1 d1
  obtain ⟨bs, r2⟩ := reads_lst I e r pb ry h2 d2
  subst e
  refine SeqAt.eq_plain r1 r2 (by simp [PyData.plain, plain_pys]) (by simp [PyData.plain, plain_pys]) (by simp only [PyData.depth, depth_pys]; omega) ⟨.bl _, w.H, I, rfl, ?_⟩
  have e2 : PyData.eqv (.list (pys xs)) (.list (pys ys)) = deqs xs ys := by
    simp only [PyData.eqv]
    exact eqv_pys xs ys d1 d2
  rw [e2]
  exact out _ w _ q r (Ext.refl w) (.bl _)
theorem o_neR (hu : X.A.units + 64 < cLine) : OpR X (compareOp .NotEq) (lo2 X.K (rEqR true)) := by
  intro pins s σ H x y v u Q I rx ry h
  obtain ⟨a, b, w, Q3, e, r, pa, pb, ⟨xs, ys, h1, h2, d1, d2, d3, q⟩, out⟩ := h
  obtain ⟨as, r1⟩ := reads_lst I e r pa rx h1 d1
  obtain ⟨bs, r2⟩ := reads_lst I e r pb ry h2 d2
  subst e
  refine SeqAt.ne_plain r1 r2 (by simp [PyData.plain, plain_pys]) (by simp [PyData.plain, plain_pys]) (by simp only [PyData.depth, depth_pys]; omega) ⟨.bl _, w.H, I, rfl, ?_⟩
  have e2 : PyData.eqv (.list (pys xs)) (.list (pys ys)) = deqs xs ys := by
    simp only [PyData.eqv]
    exact eqv_pys xs ys d1 d2
  rw [e2]
  exact out _ w _ q r (Ext.refl w) (.bl _)
end
end G3

namespace G3
open PySem L2

/-! ### dicts: keys are ints and texts (.dK), or tuples of such (.dT) -/
def keyD : Key → Dv
  | .inl i => .int i
  | .inr x => .str x
@[simp] theorem keyD_int {i : Int} : keyD (.inl i) = .int i := rfl
@[simp] theorem keyD_str {x : Str} : keyD (.inr x) = .str x := rfl
theorem keyD_inj {a b : Key} (h : keyD a = keyD b) : a = b := by
  cases a <;> cases b <;> simp [keyD] at h <;> simp [h]
section
variable {κ : Type} [DecidableEq κ]
def valD (kvs : List (κ × Dv)) (k : κ) : Option Dv := (kvs.find? fun kv => decide (kv.1 = k)).map (·.2)
def putD (kvs : List (κ × Dv)) (k : κ) (v : Dv) : List (κ × Dv) :=
  if (kvs.any fun kv => decide (kv.1 = k)) = true then kvs.map (fun kv => if kv.1 = k then (kv.1, v) else kv) else kvs ++ [(k, v)]
variable {K : PySem.W.Frag} {w : Wd}
theorem RpK.val : ∀ {kvs : List (κ × Dv)} {xs : List (κ × V)} (k : κ), RpK K w kvs xs → (∀ d, valD kvs k = some d → ∃ x, valV xs k = some x ∧ Rp K w d x) ∧ (valD kvs k = none → valV xs k = none)
  | [], _, k, h => by
    cases h
    exact ⟨fun d h => (by cases h), fun _ => rfl⟩
  | (k', d') :: kvs, _, k, h => by
    cases h with
    | cons a b =>
      rename_i q ys
      obtain ⟨k2, x2⟩ := q
      obtain ⟨e, r⟩ := a
      have e : k' = k2 := e
      subst e
      by_cases hk : k' = k
      · subst hk
        refine ⟨fun d h => ?_, fun h => ?_⟩
        · have : d' = d := by simpa [valD, List.find?_cons] using h
          subst this
          exact ⟨x2, valV_pos rfl, r⟩
        · simp [valD, List.find?_cons] at h
      · have ih := RpK.val k b
        have e1 : valD ((k', d') :: kvs) k = valD kvs k := by simp [valD, List.find?_cons, hk]
        rw [e1, valV_neg hk]
        exact ih
theorem RpK.any : ∀ {kvs : List (κ × Dv)} {xs : List (κ × V)} (k : κ), RpK K w kvs xs → (kvs.any fun kv => decide (kv.1 = k)) = xs.any fun kv => decide (kv.1 = k)
  | [], _, k, h => by cases h; rfl
  | (k', d') :: kvs, _, k, h => by
    cases h with
    | cons a b =>
      have e : k' = _ := a.1
      simp only [List.any_cons, RpK.any k b, e]
theorem RpK.repl {d : Dv} {x : V} (r : Rp K w d x) : ∀ {kvs : List (κ × Dv)} {xs : List (κ × V)} (k : κ), RpK K w kvs xs → RpK K w (kvs.map fun kv => if kv.1 = k then (kv.1, d) else kv) (xs.map fun kv => if kv.1 = k then (kv.1, x) else kv)
  | [], _, k, h => by cases h; exact .nil
  | (k', d') :: kvs, _, k, h => by
    cases h with
    | cons a b =>
      rename_i q ys
      obtain ⟨k2, x2⟩ := q
      have e : k' = k2 := a.1
      subst e
      refine .cons ?_ (RpK.repl r k b)
      by_cases hk : k' = k
      · simp only [hk, if_true]
        exact ⟨trivial, r⟩
      · simp only [hk, if_false]
        exact ⟨trivial, a.2⟩
theorem RpK.snoc {d : Dv} {x : V} (r : Rp K w d x) : ∀ {kvs : List (κ × Dv)} {xs : List (κ × V)} (k : κ), RpK K w kvs xs → RpK K w (kvs ++ [(k, d)]) (xs ++ [(k, x)])
  | [], _, k, h => by cases h; exact .cons ⟨rfl, r⟩ .nil
  | _ :: kvs, _, k, h => by
    cases h with
    | cons a b => exact .cons a (RpK.snoc r k b)
theorem RpK.put {kvs : List (κ × Dv)} {xs : List (κ × V)} {d : Dv} {x : V} (k : κ) (h : RpK K w kvs xs) (r : Rp K w d x) : RpK K w (putD kvs k d) (putK xs k x) := by
  unfold putD putK
  rw [h.any k]
  split
  · exact RpK.repl r k h
  · exact RpK.snoc r k h
theorem RpK.length : ∀ {kvs : List (κ × Dv)} {xs : List (κ × V)}, RpK K w kvs xs → kvs.length = xs.length
  | [], _, h => by cases h; rfl
  | _ :: _, _, h => by
    cases h with
    | cons a b => exact congrArg (· + 1) (RpK.length b)
theorem Rp.key {k : Key} {x : V} (r : Rp K w (keyD k) x) : x = kV k := by
  cases k <;> cases r <;> rfl
theorem RpAll.keys : ∀ {ks : List Key} {xs : List V}, RpAll K w (ks.map keyD) xs → xs = ks.map kV
  | [], _, h => by cases h; rfl
  | k :: ks, _, h => by
    cases h with
    | cons a b => rw [a.key, RpAll.keys b]; rfl
end
def KAt (h : Mh) (a : Addr) (kvs : List (Key × Dv)) : Prop := h a = some (.dK kvs) ∨ h a = some (.lkK kvs)
def TAt (h : Mh) (a : Addr) (kvs : List (List Key × Dv)) : Prop := h a = some (.dT kvs) ∨ h a = some (.lkT kvs)
theorem Rel.rdK {K : PySem.W.Frag} {w : Wd} (r : Rel K w) {a : Addr} {kvs : List (Key × Dv)} (e : KAt w.h a kvs) : ∃ xs, Rd w.H a (.dK xs) ∧ RpK K w kvs xs := by
  rcases e with e | e
  · obtain ⟨xs, g, q⟩ := r.obj a _ e
    rcases r.sub a _ g with z | ⟨_, _, o, z⟩
    · exact ⟨xs, .inl z, q⟩
    · exact ⟨xs, .inr ⟨o, z⟩, q⟩
  · obtain ⟨xs, g, q, o, z⟩ := r.obj a _ e
    exact ⟨xs, .inr ⟨o, z⟩, q⟩
theorem Rel.rdT {K : PySem.W.Frag} {w : Wd} (r : Rel K w) {a : Addr} {kvs : List (List Key × Dv)} (e : TAt w.h a kvs) : ∃ xs, Rd w.H a (.dT xs) ∧ RpK K w kvs xs := by
  rcases e with e | e
  · obtain ⟨xs, g, q⟩ := r.obj a _ e
    rcases r.sub a _ g with z | ⟨_, _, o, z⟩
    · exact ⟨xs, .inl z, q⟩
    · exact ⟨xs, .inr ⟨o, z⟩, q⟩
  · obtain ⟨xs, g, q, o, z⟩ := r.obj a _ e
    exact ⟨xs, .inr ⟨o, z⟩, q⟩
/-- what the dict d holds at a key -/
def DGetD (h : Mh) (d key : Dv) (r : Option Dv) : Prop := (∃ a kvs k, d = .ref a ∧ KAt h a kvs ∧ key = keyD k ∧ r = valD kvs k) ∨ ∃ a kvs ks, d = .ref a ∧ TAt h a kvs ∧ key = .tup (ks.map keyD) ∧ r = valD kvs ks
theorem DGetD.k {h : Mh} {a : Addr} {kvs : List (Key × Dv)} {k : Key} (e : KAt h a kvs) : DGetD h (.ref a) (keyD k) (valD kvs k) := .inl ⟨a, kvs, k, rfl, e, rfl, rfl⟩
theorem DGetD.t {h : Mh} {a : Addr} {kvs : List (List Key × Dv)} {ks : List Key} (e : TAt h a kvs) : DGetD h (.ref a) (.tup (ks.map keyD)) (valD kvs ks) := .inr ⟨a, kvs, ks, rfl, e, rfl, rfl⟩
theorem DGetD.low {K : PySem.W.Frag} {w : Wd} {d key : Dv} {r : Option Dv} {x y : V} (rl : Rel K w) (g : DGetD w.h d key r) (pd : Rp K w d x) (pk : Rp K w key y) : ∃ a o, x = .ref a ∧ DGet w.H a y o ∧ (∀ e, r = some e → ∃ z, o = some z ∧ Rp K w e z) ∧ (r = none → o = none) := by
  rcases g with ⟨a, kvs, k, rfl, e, rfl, rfl⟩ | ⟨a, kvs, ks, rfl, e, rfl, rfl⟩
  · cases pd
    obtain ⟨xs, hH, rk⟩ := rl.rdK e
    have ey := pk.key
    subst ey
    obtain ⟨v1, v2⟩ := rk.val k
    exact ⟨a, valV xs k, rfl, .inl ⟨xs, k, hH, rfl, rfl⟩, v1, v2⟩
  · cases pd
    obtain ⟨xs, hH, rk⟩ := rl.rdT e
    cases pk with
    | tup t ra =>
      have ey := ra.keys
      subst ey
      obtain ⟨v1, v2⟩ := rk.val ks
      exact ⟨a, valV xs ks, rfl, .inr ⟨xs, ks, _, hH, rfl, rl.tupH t, rfl⟩, v1, v2⟩
/-- the heap behind d[key] = v -/
def DPutD (h : Mh) (d key v : Dv) (h' : Mh) : Prop := (∃ a kvs k, d = .ref a ∧ h a = some (.dK kvs) ∧ key = keyD k ∧ kvs.length < sizeLine ∧ h' = mput h a (.dK (putD kvs k v))) ∨
  ∃ a kvs ks, d = .ref a ∧ h a = some (.dT kvs) ∧ key = .tup (ks.map keyD) ∧ kvs.length < sizeLine ∧ h' = mput h a (.dT (putD kvs ks v))
theorem DPutD.k {h : Mh} {a : Addr} {kvs : List (Key × Dv)} {k : Key} {v : Dv} (e : h a = some (.dK kvs)) (l : kvs.length < sizeLine) : DPutD h (.ref a) (keyD k) v (mput h a (.dK (putD kvs k v))) := .inl ⟨a, kvs, k, rfl, e, rfl, l, rfl⟩
theorem DPutD.t {h : Mh} {a : Addr} {kvs : List (List Key × Dv)} {ks : List Key} {v : Dv} (e : h a = some (.dT kvs)) (l : kvs.length < sizeLine) : DPutD h (.ref a) (.tup (ks.map keyD)) v (mput h a (.dT (putD kvs ks v))) := .inr ⟨a, kvs, ks, rfl, e, rfl, l, rfl⟩
section
variable {X : Cx} {o i e f value : Expr} {pos pos' apos cpos : Pos} {go gi ge gf : GE}
/-- {} -/
@[simp] def gDNewK : GE := fun _ h Q => ∀ p, h p = none → Q (.ref p) (mput h p (.dK []))
@[simp] def gDNewT : GE := fun _ h Q => ∀ p, h p = none → Q (.ref p) (mput h p (.dT []))
theorem e_dnewK : E3 X (.Dict [] [] pos) gDNewK := PEimp pe_dnewK fun σ H Q ⟨ρ, w, Q3, eH, gd, q, out⟩ => by
  subst eH
  intro p hp
  obtain ⟨r2, e2⟩ := gd.rel.put (p := p) (u := .dK []) (m := .dK []) (.inl hp) fun v _ g => ⟨[], g, .nil⟩
  exact out.go (w' := ⟨mput w.h p (.dK []), upd w.G p (.dK []), upd w.H p (.dK [])⟩) r2 e2 (.ref p) (q p (gd.rel.hnone hp).2)
theorem e_dnewT : E3 X (.Dict [] [] pos) gDNewT := PEimp pe_dnewT fun σ H Q ⟨ρ, w, Q3, eH, gd, q, out⟩ => by
  subst eH
  intro p hp
  obtain ⟨r2, e2⟩ := gd.rel.put (p := p) (u := .dT []) (m := .dT []) (.inl hp) fun v _ g => ⟨[], g, .nil⟩
  exact out.go (w' := ⟨mput w.h p (.dT []), upd w.G p (.dT []), upd w.H p (.dT [])⟩) r2 e2 (.ref p) (q p (gd.rel.hnone hp).2)
/-- d[key] -/
@[simp] def gDGet (go gi : GE) : GE := fun ρ h Q => go ρ h fun d h1 => gi ρ h1 fun k h2 => ∃ v, DGetD h2 d k (some v) ∧ Q v h2
theorem e_dget (hu : X.A.units + 64 < cLine) (ho : E3 X o go) (hi : E3 X i gi) (hs : NoSl i := by exact fun _ _ => rfl) : E3 X (.Subscript o i pos) (gDGet go gi) := PEimp (pe_dget (by omega) ho hi hs) fun σ H Q ⟨ρ, w, Q3, eH, gd, q, out⟩ => by
  subst eH
  refine ⟨ρ, w, _, rfl, gd, q, fun d w1 v1 q1 r1 e1 p1 => ⟨ρ, w1, _, rfl, gd.ext r1 e1, q1, fun k w2 v2 ⟨v, g, q2⟩ r2 e2 p2 => ?_⟩⟩
  obtain ⟨a, oo, rfl, dg, s1, _⟩ := g.low r2 (p1.ext e2) p2
  obtain ⟨z, rfl, rz⟩ := s1 v rfl
  exact ⟨a, z, rfl, dg, out.go r2 (e1.trans e2) rz q2⟩
/-- key in d -/
@[simp] def gDIn (neg : Bool) (gi go : GE) : GE := fun ρ h Q => gi ρ h fun k h1 => go ρ h1 fun d h2 => ∃ r, DGetD h2 d k r ∧ Q (.bl (if neg then !r.isSome else r.isSome)) h2
theorem low_in {K : PySem.W.Frag} {neg : Bool} {σ : St} {H : Hp} {Q : VK} (h : lo K (gDIn neg gi go) σ H Q) : (fun σ H Q => lo K gi σ H fun y H1 => lo K go σ H1 fun x H2 => ∃ a o, x = .ref a ∧ DGet H2 a y o ∧ Q (.bl (if neg then !o.isSome else o.isSome)) H2) σ H Q := by
  obtain ⟨ρ, w, Q3, eH, gd, q, out⟩ := h
  subst eH
  refine ⟨ρ, w, _, rfl, gd, q, fun k w1 v1 q1 r1 e1 p1 => ⟨ρ, w1, _, rfl, gd.ext r1 e1, q1, fun d w2 v2 ⟨r, g, q2⟩ r2 e2 p2 => ?_⟩⟩
  obtain ⟨a, oo, rfl, dg, s1, s2⟩ := g.low r2 p2 (p1.ext e2)
  have es : oo.isSome = r.isSome := by
    cases r with
    | none => rw [s2 rfl]; rfl
    | some e => obtain ⟨z, rfl, _⟩ := s1 e rfl; rfl
  refine ⟨a, oo, rfl, dg, ?_⟩
  rw [es]
  exact out.go r2 (e1.trans e2) (.bl _) q2
theorem e_din (hu : X.A.units + 64 < cLine) (hi : E3 X i gi) (ho : E3 X o go) (hm : behindInMarks .In o = false := by rfl) : E3 X (.Compare i [.In] [o] pos) (gDIn false gi go) := PEimp (pe_cmp (pc_din (by omega) hi ho) hm) fun _ _ _ h => low_in h
theorem e_dnotin (hu : X.A.units + 64 < cLine) (hi : E3 X i gi) (ho : E3 X o go) (hm : behindInMarks .NotIn o = false := by rfl) : E3 X (.Compare i [.NotIn] [o] pos) (gDIn true gi go) := PEimp (pe_cmp (pc_dnotin (by omega) hi ho) hm) fun _ _ _ h => low_in h
theorem t_din (hu : X.A.units + 64 < cLine) (hi : E3 X i gi) (ho : E3 X o go) (hm : behindInMarks .In o = false := by rfl) : T3 X (.Compare i [.In] [o] pos) (gTest (gDIn false gi go)) := PTimp (pt_cmp (pc_din (by omega) hi ho) hm) fun _ _ _ h => lo_test (fun _ _ _ => low_in) h
theorem t_dnotin (hu : X.A.units + 64 < cLine) (hi : E3 X i gi) (ho : E3 X o go) (hm : behindInMarks .NotIn o = false := by rfl) : T3 X (.Compare i [.NotIn] [o] pos) (gTest (gDIn true gi go)) := PTimp (pt_cmp (pc_dnotin (by omega) hi ho) hm) fun _ _ _ h => lo_test (fun _ _ _ => low_in) h
/-- d[key] = v -/
@[simp] def gDPut (go gi gv : GE) : GS := fun E ρ h => gv ρ h fun v h1 => go ρ h1 fun d h2 => gi ρ h2 fun k h3 => ∃ h4, DPutD h3 d k v h4 ∧ E.nx ρ h4
theorem s_dput {gv : GE} (hu : X.A.units + 64 < cLine) (ho : E3 X o go) (hi : E3 X i gi) (hv : E3 X value gv) (hs : swapsWith value (some (.Subscript o i pos')) pos.line X.env = pure false := by rfl) :
    S3 X (.Assign [.Subscript o i pos'] value pos) (gDPut go gi gv) := PSimp (ps_dput (by omega) ho hi hv hs) fun D σ H ⟨ρ, w, E, eH, gd, q, out⟩ => by
  subst eH
  refine ⟨ρ, w, _, rfl, gd, q, fun v w1 v1 q1 r1 e1 p1 => ⟨ρ, w1, _, rfl, gd.ext r1 e1, q1, fun d w2 v2 q2 r2 e2 p2 => ⟨ρ, w2, _, rfl, (gd.ext r1 e1).ext r2 e2, q2, fun k w3 v3 ⟨h4, pt, q3⟩ r3 e3 p3 => ?_⟩⟩⟩
  have p1 := (p1.ext e2).ext e3
  have p2 := p2.ext e3
  have gd3 := ((gd.ext r1 e1).ext r2 e2).ext r3 e3
  rcases pt with ⟨a, kvs, kk, rfl, e, rfl, l, rfl⟩ | ⟨a, kvs, ks, rfl, e, rfl, l, rfl⟩
  · cases p2
    obtain ⟨xs, hG, hH, rk⟩ := r3.mdK e
    have ey := p3.key
    subst ey
    obtain ⟨r4, e4⟩ := r3.put (p := a) (u := .dK (putK xs kk v1)) (m := .dK (putD kvs kk v)) (.inr ⟨_, e, id⟩) fun v' ex g => ⟨_, g, Paired.mapP (rk.put kk p1) fun _ _ z => ⟨z.1, z.2.ext ex⟩⟩
    exact ⟨a, _, rfl, DPut.k hH (by rw [← rk.length]; exact l), out.nx ρ ⟨mput w3.h a (.dK (putD kvs kk v)), upd w3.G a (.dK (putK xs kk v1)), upd w3.H a (.dK (putK xs kk v1))⟩ _ q3 (gd3.ext r4 e4) (((e1.trans e2).trans e3).trans e4)⟩
  · cases p2
    obtain ⟨xs, hG, hH, rk⟩ := r3.mdT e
    cases p3 with
    | tup t ra =>
      have ey := ra.keys
      subst ey
      obtain ⟨r4, e4⟩ := r3.put (p := a) (u := .dT (putK xs ks v1)) (m := .dT (putD kvs ks v)) (.inr ⟨_, e, id⟩) fun v' ex g => ⟨_, g, Paired.mapP (rk.put ks p1) fun _ _ z => ⟨z.1, z.2.ext ex⟩⟩
      exact ⟨a, _, rfl, DPut.t hH (r3.tupH t) (by rw [← rk.length]; exact l), out.nx ρ ⟨mput w3.h a (.dT (putD kvs ks v)), upd w3.G a (.dT (putK xs ks v1)), upd w3.H a (.dT (putK xs ks v1))⟩ _ q3 (gd3.ext r4 e4) (((e1.trans e2).trans e3).trans e4)⟩
/-- d.get(key), d.get(key, x) -/
def IsDD (h : Mh) (d : Dv) : Prop := (∃ a kvs, d = .ref a ∧ KAt h a kvs) ∨ ∃ a kvs, d = .ref a ∧ TAt h a kvs
theorem IsDD.low {K : PySem.W.Frag} {w : Wd} {d : Dv} {x : V} (rl : Rel K w) (g : IsDD w.h d) (pd : Rp K w d x) : ∃ a, x = .ref a ∧ IsD w.H a := by
  rcases g with ⟨a, kvs, rfl, e⟩ | ⟨a, kvs, rfl, e⟩
  · cases pd
    obtain ⟨xs, hH, _⟩ := rl.rdK e
    exact ⟨a, rfl, .inl ⟨xs, hH⟩⟩
  · cases pd
    obtain ⟨xs, hH, _⟩ := rl.rdT e
    exact ⟨a, rfl, .inr ⟨xs, hH⟩⟩
@[simp] def gDGet2 (go gi gx : GE) : GE := fun ρ h Q => go ρ h fun d h1 => IsDD h1 d ∧ gi ρ h1 fun k h2 => gx ρ h2 fun z h3 => ∃ r, DGetD h3 d k r ∧ Q (r.getD z) h3
theorem e_dget2 {gx : GE} (hu : X.A.units + 64 < cLine) (ho : E3 X o go) (he : E3 X e ge) (hf : E3 X f gx) (m : M2 X o "get" apos e f cpos) : E3 X (.Call (.Attribute o "get" apos) [e, f] [] cpos) (gDGet2 go ge gx) := PEimp (pe_dget2 (by omega) ho he hf m) fun σ H Q ⟨ρ, w, Q3, eH, gd, q, out⟩ => by
  subst eH
  refine ⟨ρ, w, _, rfl, gd, q, fun d w1 v1 ⟨isd, q1⟩ r1 e1 p1 => ?_⟩
  obtain ⟨a, rfl, id⟩ := isd.low r1 p1
  refine ⟨a, rfl, id, ρ, w1, _, rfl, gd.ext r1 e1, q1, fun k w2 v2 q2 r2 e2 p2 => ⟨ρ, w2, _, rfl, (gd.ext r1 e1).ext r2 e2, q2, fun z w3 v3 ⟨r, g, q3⟩ r3 e3 p3 => ?_⟩⟩
  obtain ⟨a', oo, ea, dg, s1, s2⟩ := g.low r3 ((p1.ext e2).ext e3) (p2.ext e3)
  cases ea
  refine ⟨oo, dg, ?_⟩
  cases r with
  | none =>
    rw [s2 rfl]
    exact out.go r3 ((e1.trans e2).trans e3) p3 q3
  | some x =>
    obtain ⟨z', rfl, rz⟩ := s1 x rfl
    exact out.go r3 ((e1.trans e2).trans e3) rz q3
@[simp] def gDGet1 (go gi : GE) : GE := fun ρ h Q => go ρ h fun d h1 => IsDD h1 d ∧ gi ρ h1 fun k h2 => ∃ r, DGetD h2 d k r ∧ Q (r.getD .non) h2
theorem e_dget1 (hu : X.A.units + 64 < cLine) (ho : E3 X o go) (he : E3 X e ge) (m : M1 X o "get" apos e cpos) : E3 X (.Call (.Attribute o "get" apos) [e] [] cpos) (gDGet1 go ge) := PEimp (pe_dget1 (by omega) ho he m) fun σ H Q ⟨ρ, w, Q3, eH, gd, q, out⟩ => by
  subst eH
  refine ⟨ρ, w, _, rfl, gd, q, fun d w1 v1 ⟨isd, q1⟩ r1 e1 p1 => ?_⟩
  obtain ⟨a, rfl, id⟩ := isd.low r1 p1
  refine ⟨a, rfl, id, ρ, w1, _, rfl, gd.ext r1 e1, q1, fun k w2 v2 ⟨r, g, q2⟩ r2 e2 p2 => ?_⟩
  obtain ⟨a', oo, ea, dg, s1, s2⟩ := g.low r2 (p1.ext e2) p2
  cases ea
  refine ⟨oo, dg, ?_⟩
  cases r with
  | none =>
    rw [s2 rfl]
    exact out.go r2 (e1.trans e2) .non q2
  | some x =>
    obtain ⟨z', rfl, rz⟩ := s1 x rfl
    exact out.go r2 (e1.trans e2) rz q2
end

/-! ### a statement while a dict is only read -/
section
variable {K : PySem.W.Frag} {w : Wd}
theorem still_lk {h : Mh} {p : Addr} {kvs : List (Key × Dv)} (e : h p = some (.lkK kvs)) : Still h p := by unfold Still; rw [e]; trivial
/-- the state with the dict at a locked -/
theorem Rel.lockK (r : Rel K w) {a : Addr} {kvs : List (Key × Dv)} (e : w.h a = some (.dK kvs)) {xs : List (Key × V)} (hG : w.G a = some (.dK xs)) (od : Obj) :
    Rel K ⟨mput w.h a (.lkK kvs), w.G, upd w.H a (.frz od (.dK xs))⟩ ∧ Fzs w ⟨mput w.h a (.lkK kvs), w.G, upd w.H a (.frz od (.dK xs))⟩ := by
  have fz : Fzs w ⟨mput w.h a (.lkK kvs), w.G, upd w.H a (.frz od (.dK xs))⟩ := fun p u h1 h2 => by
    have n : p ≠ a := fun z => by rw [z, e] at h1; cases h1
    exact ⟨h2, by show mput w.h a _ p = none; rw [mput_ne n]; exact h1⟩
  refine ⟨⟨fun p u h => ?_, fun b m h => ?_, r.tab.at (fun _ z => by cases z) (fun x z _ => by rw [e] at z; cases z) (fun _ n => mput_ne n) (fun _ _ => rfl), r.all.at fun ps z => by
    have := (r.tab _ _ z).1
    rw [e] at this; cases this⟩, fz⟩
  · by_cases n : p = a
    · subst n
      have h : w.G p = some u := h
      rw [hG] at h
      cases h
      exact .inr ⟨still_lk mput_same, (fun _ z => by cases z), od, upd_same⟩
    · rcases r.sub p u h with z | ⟨z1, nt, o, z⟩
      · exact .inl ((upd_ne n).trans z)
      · exact .inr ⟨still_of z1 (mput_ne n), nt, o, (upd_ne n).trans z⟩
  · have h : mput w.h a (.lkK kvs) b = some m := h
    by_cases n : b = a
    · subst n
      rw [mput_same] at h
      cases h
      obtain ⟨ys, g, q⟩ := r.obj b _ e
      rw [hG] at g
      cases g
      exact ⟨xs, hG, Paired.mapP q fun _ _ z => ⟨z.1, Rp.fz fz z.2⟩, od, upd_same⟩
    · rw [mput_ne n] at h
      exact RpO.fz fz (fun _ z => z) (fun _ => upd_ne n) (r.obj b m h)
/-- .. and unlocked again -/
theorem Rel.unlockK {v : Wd} (r : Rel K v) {a : Addr} {kvs : List (Key × Dv)} (e : v.h a = some (.lkK kvs)) {xs : List (Key × V)} (hG : v.G a = some (.dK xs)) :
    Rel K ⟨mput v.h a (.dK kvs), v.G, upd v.H a (.dK xs)⟩ ∧ Fzs v ⟨mput v.h a (.dK kvs), v.G, upd v.H a (.dK xs)⟩ := by
  have fz : Fzs v ⟨mput v.h a (.dK kvs), v.G, upd v.H a (.dK xs)⟩ := fun p u h1 h2 => by
    have n : p ≠ a := fun z => by rw [z, e] at h1; cases h1
    exact ⟨h2, by show mput v.h a _ p = none; rw [mput_ne n]; exact h1⟩
  refine ⟨⟨fun p u h => ?_, fun b m h => ?_, r.tab.at (fun _ z => by cases z) (fun x z _ => by rw [e] at z; cases z) (fun _ n => mput_ne n) (fun _ _ => rfl), r.all.at fun ps z => by
    have := (r.tab _ _ z).1
    rw [e] at this; cases this⟩, fz⟩
  · by_cases n : p = a
    · subst n
      have h : v.G p = some u := h
      rw [hG] at h
      cases h
      exact .inl upd_same
    · rcases r.sub p u h with z | ⟨z1, nt, o, z⟩
      · exact .inl ((upd_ne n).trans z)
      · exact .inr ⟨still_of z1 (mput_ne n), nt, o, (upd_ne n).trans z⟩
  · have h : mput v.h a (.dK kvs) b = some m := h
    by_cases n : b = a
    · subst n
      rw [mput_same] at h
      cases h
      obtain ⟨ys, g, q, _⟩ := r.obj b _ e
      exact ⟨ys, g, Paired.mapP q fun _ _ z => ⟨z.1, Rp.fz fz z.2⟩⟩
    · rw [mput_ne n] at h
      exact RpO.fz fz (fun _ z => z) (fun _ => upd_ne n) (r.obj b m h)
/-- what was before the lock is kept behind it -/
theorem ext_unlock {w v : Wd} {a : Addr} {kvs : List (Key × Dv)} {xs : List (Key × V)} {od : Obj} (e : w.h a = some (.dK kvs)) (hG : w.G a = some (.dK xs)) (hH : w.H a = some (.dK xs)) (x : Ext ⟨mput w.h a (.lkK kvs), w.G, upd w.H a (.frz od (.dK xs))⟩ v) :
    Ext w ⟨mput v.h a (.dK kvs), v.G, upd v.H a (.dK xs)⟩ := by
  refine ⟨fun p u h1 h2 => ?_, fun p u h1 h2 nt => ?_, fun p m h1 l => ?_⟩
  · have n : p ≠ a := fun z => by rw [z, e] at h1; cases h1
    obtain ⟨y1, y2⟩ := x.fz p u (by show mput w.h a _ p = none; rw [mput_ne n]; exact h1) h2
    exact ⟨y1, by show mput v.h a _ p = none; rw [mput_ne n]; exact y2⟩
  · have n : p ≠ a := fun z => by rw [z, hG] at h1; cases h1
    obtain ⟨y1, y2⟩ := x.junk p u h1 ((upd_ne n).trans h2) nt
    exact ⟨y1, (upd_ne n).trans y2⟩
  · have n : p ≠ a := fun z => by
      rw [z, e] at h1
      cases h1
      exact l
    obtain ⟨y1, y2, y3⟩ := x.lk p m (by show mput w.h a _ p = some m; rw [mput_ne n]; exact h1) l
    refine ⟨by show mput v.h a _ p = some m; rw [mput_ne n]; exact y1, y2, (upd_ne n).trans (y3.trans (upd_ne n))⟩
end
/-- while the dict at a is walked -/
def unlk (a : Addr) (kvs : List (Key × Dv)) (f : Mh → Prop) : Mh → Prop := fun h => f (mput h a (.dK kvs))
@[simp] def gLockS (st : GS) : GS := fun E ρ h => ∃ a kvs, h a = some (.dK kvs) ∧ st ⟨fun ρ' h' => E.nx ρ' (mput h' a (.dK kvs)), fun d h' => E.rt d (mput h' a (.dK kvs)), fun ρ' h' => E.bk ρ' (mput h' a (.dK kvs)), fun ρ' h' => E.ct ρ' (mput h' a (.dK kvs)), fun _ _ _ => False⟩ ρ (mput h a (.lkK kvs))
section
variable {X : Cx}
theorem s_lock {st : Stmt} {g : GS} (h : S3 X st g) : S3 X st (gLockS g) := PSimp (ps_lock h) fun D σ H ⟨ρ, w, E, eH, gd, ⟨a, kvs, e, q⟩, out⟩ => by
  subst eH
  obtain ⟨xs, hG, hH, rk⟩ := gd.rel.mdK e
  refine ⟨a, .dK xs, hH, trivial, fun od => ?_⟩
  obtain ⟨r1, fz⟩ := gd.rel.lockK e hG od
  have gd1 : Good X.K ρ ⟨mput w.h a (.lkK kvs), w.G, upd w.H a (.frz od (.dK xs))⟩ σ := ⟨r1, gd.len, fun i d h => let ⟨x, y, b⟩ := gd.at_ i d h; ⟨x, y, Rp.fz fz b⟩⟩
  have lkat : ∀ {v : Wd}, Ext ⟨mput w.h a (.lkK kvs), w.G, upd w.H a (.frz od (.dK xs))⟩ v → v.h a = some (.lkK kvs) ∧ v.G a = some (.dK xs) ∧ v.H a = some (.frz od (.dK xs)) := fun {v} x => by
    obtain ⟨y1, y2, y3⟩ := x.lk a (.lkK kvs) mput_same trivial
    exact ⟨y1, y2.trans hG, y3.trans upd_same⟩
  have un : ∀ {ρ' : Sl} {v : Wd} {σ' : L2.St}, Good X.K ρ' v σ' → Ext ⟨mput w.h a (.lkK kvs), w.G, upd w.H a (.frz od (.dK xs))⟩ v → Good X.K ρ' ⟨mput v.h a (.dK kvs), v.G, upd v.H a (.dK xs)⟩ σ' := fun {ρ' v σ'} g x => by
    obtain ⟨y1, y2, _⟩ := lkat x
    obtain ⟨r2, fz2⟩ := g.rel.unlockK y1 y2
    exact ⟨r2, g.len, fun i d h => let ⟨x, y, b⟩ := g.at_ i d h; ⟨x, y, Rp.fz fz2 b⟩⟩
  refine ⟨ρ, _, _, rfl, gd1, q, ⟨fun ρ' v σ' q' g x => ⟨(lkat x).2.2, ?_⟩, fun d v u q' rl x p => ⟨(lkat x).2.2, ?_⟩, fun ρ' v σ' q' g x => ⟨(lkat x).2.2, ?_⟩, fun ρ' v σ' q' g x => ⟨(lkat x).2.2, ?_⟩⟩⟩
  · exact out.nx ρ' ⟨mput v.h a (.dK kvs), v.G, upd v.H a (.dK xs)⟩ σ' q' (un g x) (ext_unlock e hG hH x)
  · obtain ⟨y1, y2, _⟩ := lkat x
    obtain ⟨r2, fz2⟩ := rl.unlockK y1 y2
    exact out.rt d ⟨mput v.h a (.dK kvs), v.G, upd v.H a (.dK xs)⟩ u q' r2 (ext_unlock e hG hH x) (Rp.fz fz2 p)
  · exact out.bk ρ' ⟨mput v.h a (.dK kvs), v.G, upd v.H a (.dK xs)⟩ σ' q' (un g x) (ext_unlock e hG hH x)
  · exact out.ct ρ' ⟨mput v.h a (.dK kvs), v.G, upd v.H a (.dK xs)⟩ σ' q' (un g x) (ext_unlock e hG hH x)
end

/-! ### a locked dict is walked -/
theorem RpK.at {κ : Type} {K : PySem.W.Frag} {w : Wd} : ∀ {kvs : List (κ × Dv)} {xs : List (κ × V)} {i : Nat}, RpK K w kvs xs → ∀ p, xs[i]? = some p → ∃ d, kvs[i]? = some (p.1, d) ∧ Rp K w d p.2
  | [], _, i, h, p, e => by cases h; simp at e
  | (k, d) :: kvs, _, 0, h, p, e => by
    cases h with
    | cons a b =>
      have e := Option.some.inj e
      subst e
      have e1 : k = _ := a.1
      exact ⟨d, by rw [← e1]; rfl, a.2⟩
  | (k, d) :: kvs, _, i + 1, h, p, e => by
    cases h with
    | cons a b => exact RpK.at b p e
section
variable {X : Cx} {e : Expr} {ge : GE} {tg : Expr} {pos apos cpos tpos : Pos}
/-- for k in d -/
def keysOf (h : Mh) (d : Dv) (ks : List Dv) : Prop := ∃ a kvs, d = .ref a ∧ h a = some (.lkK kvs) ∧ ks = kvs.map fun p => keyD p.1
@[simp] def gKeys (ge : GE) : GI := fun ρ h R => ge ρ h fun d h1 => ∃ ks, keysOf h1 d ks ∧ R ks h1
theorem i_keys (he : E3 X e ge) : I3 X tg e (gKeys ge) := PIimp (pi_keys he) fun σ H R ⟨ρ, w, R3, eH, gd, q, out⟩ => by
  subst eH
  refine ⟨ρ, w, _, rfl, gd, q, fun d w1 v hq r1 e1 p1 => ?_⟩
  obtain ⟨ks, ⟨a, kvs, ed, hh, ek⟩, q1⟩ := hq
  subst ed ek
  cases p1
  obtain ⟨xs, g, rk, o, hH⟩ := r1.obj a _ hh
  have stay : ∀ {w'}, Ex0 w1 w' → w'.H a = some (.frz o (.dK xs)) := fun {w'} e' => (e'.lk a _ hh trivial).2.2.trans hH
  have ln := rk.length
  refine ⟨a, o, rfl, .inl ⟨xs, hH, out _ w1 _ q1 r1 e1 ⟨fun i w' e' r' hi => ?_, fun i w' x H'' e' r' ⟨eH, k, v, hk, hx⟩ d hd => ?_, fun w' e' r' => ?_⟩⟩⟩
  · rw [List.length_map] at hi
    exact ⟨stay e', by omega⟩
  · subst eH hx
    obtain ⟨dd, hdd, _⟩ := rk.at _ hk
    rw [List.getElem?_map, hdd] at hd
    cases hd
    refine ⟨w', rfl, rfl, r', Ext.refl w', ?_⟩
    cases k with
    | inl i => exact .int i
    | inr z => exact .str z
  · rw [List.length_map]
    exact ⟨stay e', by omega⟩
/-- for k, v in d.items() -/
def itemsOf (h : Mh) (d : Dv) (ks : List Dv) : Prop := ∃ a kvs, d = .ref a ∧ h a = some (.lkK kvs) ∧ ks = kvs.map fun p => .tup [keyD p.1, p.2]
@[simp] def gItems (ge : GE) : GI := fun ρ h R => ge ρ h fun d h1 => ∃ ks, itemsOf h1 d ks ∧ R ks h1
theorem i_items {es : List Expr} {kk : Nat} (he : E3 X e ge) (hbase : attributeBase e "items" X.env (eval e X.env) = eval e X.env := by rfl) (hline : (apos.endLine == cpos.line) = true := by rfl) :
    I3 X (.Tuple es kk tpos) (.Call (.Attribute e "items" apos) [] [] cpos) (gItems ge) := PIimp (pi_items he hbase hline) fun σ H R ⟨ρ, w, R3, eH, gd, q, out⟩ => by
  subst eH
  refine ⟨ρ, w, _, rfl, gd, q, fun d w1 v hq r1 e1 p1 => ?_⟩
  obtain ⟨ks, ⟨a, kvs, ed, hh, ek⟩, q1⟩ := hq
  subst ed ek
  cases p1
  obtain ⟨xs, g, rk, o, hH⟩ := r1.obj a _ hh
  have stay : ∀ {w'}, Ex0 w1 w' → w'.H a = some (.frz o (.dK xs)) := fun {w'} e' => (e'.lk a _ hh trivial).2.2.trans hH
  have ln := rk.length
  refine ⟨a, o, xs, rfl, hH, out _ w1 _ q1 r1 e1 ⟨fun i w' e' r' hi => ?_, fun i w' x H'' e' r' ⟨T, k, v, hk, hx, hT, eH⟩ d hd => ?_, fun w' e' r' => ?_⟩⟩
  · rw [List.length_map] at hi
    exact ⟨stay e', by omega⟩
  · subst eH hx
    obtain ⟨dd, hdd, rd⟩ := rk.at _ hk
    rw [List.getElem?_map, hdd] at hd
    cases hd
    have rkey : Rp X.K w' (keyD k) (kV k) := by
      cases k with
      | inl i => exact .int i
      | inr z => exact .str z
    obtain ⟨r2, e2, p2⟩ := new_tup (p := T) r' (.cons rkey (.cons (Rp.fz e'.fz rd) .nil)) hT
    exact ⟨⟨w'.h, upd w'.G T (.tup [kV k, v]), upd w'.H T (.tup [kV k, v])⟩, rfl, rfl, r2, e2, p2⟩
  · rw [List.length_map]
    exact ⟨stay e', by omega⟩
end
end G3

namespace G3
open PySem L2 RZ

/-! ### zip of two lists, of two tuples (not strict) -/
def pairs : List Dv → List Dv → List Dv
  | x :: xs, y :: ys => .tup [x, y] :: pairs xs ys
  | _, _ => []
theorem pairs_len : ∀ (xs ys : List Dv), (pairs xs ys).length = min xs.length ys.length
  | [], ys => by simp [pairs]
  | x :: xs, [] => by simp [pairs]
  | x :: xs, y :: ys => by
    simp only [pairs, List.length_cons, pairs_len xs ys]
    omega
theorem pairs_get : ∀ (xs ys : List Dv) (i : Nat) (d : Dv), (pairs xs ys)[i]? = some d → ∃ x y, xs[i]? = some x ∧ ys[i]? = some y ∧ d = .tup [x, y]
  | [], ys, i, d, h => by simp [pairs] at h
  | x :: xs, [], i, d, h => by simp [pairs] at h
  | x :: xs, y :: ys, 0, d, h => by
    simp [pairs] at h
    exact ⟨x, y, rfl, rfl, h.symm⟩
  | x :: xs, y :: ys, i + 1, d, h => pairs_get xs ys i d (by simpa [pairs] using h)
/-- what zip walks -/
def zipOf (a b : Dv) (ps : List Dv) : Prop := (∃ xs ys, a = .lst xs ∧ b = .lst ys ∧ ps = pairs xs ys) ∨ ∃ xs ys, a = .tup xs ∧ b = .tup ys ∧ ps = pairs xs ys
@[simp] theorem zipOf_tup {xs ys ps : List Dv} : zipOf (.tup xs) (.tup ys) ps ↔ ps = pairs xs ys := by
  constructor
  · rintro (⟨_, _, e, _⟩ | ⟨_, _, e, e2, h⟩)
    · cases e
    · cases e; cases e2; exact h
  · intro h
    exact .inr ⟨_, _, rfl, rfl, h⟩
@[simp] theorem zipOf_lst {xs ys ps : List Dv} : zipOf (.lst xs) (.lst ys) ps ↔ ps = pairs xs ys := by
  constructor
  · rintro (⟨_, _, e, e2, h⟩ | ⟨_, _, e, _⟩)
    · cases e; cases e2; exact h
    · cases e
  · intro h
    exact .inl ⟨_, _, rfl, rfl, h⟩
@[simp] def gZip (gs : GA) : GI := fun ρ h R => gs ρ h fun ds h1 => ∃ a b ps, ds = [a, b] ∧ zipOf a b ps ∧ R ps h1
section
variable {K : PySem.W.Frag} {w1 : Wd}
theorem zip_yld {w' : Wd} {xs ys : List Dv} {vx vy : List V} {i : Nat} {x y : V} {T : Addr} {d : Dv} (r' : Rel K w') (e' : Ex0 w1 w') (ra : RpAll K w1 xs vx) (rb : RpAll K w1 ys vy) (hx : vx[i]? = some x) (hy : vy[i]? = some y) (hT : w'.H T = none) (hd : (pairs xs ys)[i]? = some d) :
    ∃ w'' : Wd, w''.H = upd w'.H T (.tup [x, y]) ∧ w''.h = w'.h ∧ Rel K w'' ∧ Ext w' w'' ∧ Rp K w'' d (.ref T) := by
  obtain ⟨dx, dy, e1, e2, rfl⟩ := pairs_get xs ys i d hd
  obtain ⟨x2, h1, p1⟩ := ra.get' e1
  obtain ⟨y2, h2, p2⟩ := rb.get' e2
  rw [hx] at h1
  rw [hy] at h2
  cases h1
  cases h2
  obtain ⟨r2, ex2, q2⟩ := new_tup (p := T) r' (.cons (Rp.fz e'.fz p1) (.cons (Rp.fz e'.fz p2) .nil)) hT
  exact ⟨⟨w'.h, upd w'.G T (.tup [x, y]), upd w'.H T (.tup [x, y])⟩, rfl, rfl, r2, ex2, q2⟩
end
theorem i_zip {X : Cx} {es : List Expr} {kk : Nat} {a b : Expr} {p pos tpos : Pos} {gs : GA} (hg : Gl X "zip") (hm : X.mg "zip" = none) (ha : A3 X [a, b] gs)
    (hs : starEach [a, b] X.env = (false, eval a X.env) :: starEach [b] X.env := by rfl) (hpl : (backTo pos (starEach [b] X.env)).any (·.1) = false := by rfl) :
    I3 X (.Tuple es kk tpos) (.Call (.Name "zip" p) [a, b] [] pos) (gZip gs) := PIimp (pi_zipA hg hm ha hs hpl) fun σ H R ⟨ρ, w, R3, e, gd, q, out⟩ => by
  subst e
  refine ⟨ρ, w, _, rfl, gd, q, fun ds w1 vs hq r1 e1 p1 => ?_⟩
  obtain ⟨da, db, ps, e2, hw, q1⟩ := hq
  subst e2
  obtain ⟨x, y, e3, px, py⟩ := p1.two
  subst e3
  rcases hw with ⟨xs, ys, ea, eb, ep⟩ | ⟨xs, ys, ea, eb, ep⟩
  · subst ea eb ep
    have ln := pairs_len xs ys
    cases px with
    | lst t ra =>
      cases py with
      | lst t2 rb =>
        have la := ra.length
        have lb := rb.length
        refine ⟨_, _, _, _, rfl, .inl ⟨r1.sqL t, r1.sqL t2, out _ w1 _ q1 r1 e1 ⟨fun i w' e' r' hi => ?_, fun i w' x H'' e' r' ⟨T, x1, y1, ev, hT, eH, hx, hy⟩ d hd => ?_, fun w' e' r' => ?_⟩⟩⟩
        · exact ⟨_, _, _, _, r'.sqL (t.ext e'.fz), r'.sqL (t2.ext e'.fz), List.getElem?_eq_getElem (by omega), List.getElem?_eq_getElem (by omega)⟩
        · subst ev eH
          exact zip_yld r' e' ra rb (hx _ (r'.sqL (t.ext e'.fz))) (hy _ (r'.sqL (t2.ext e'.fz))) hT hd
        · exact ⟨_, _, r'.sqL (t.ext e'.fz), r'.sqL (t2.ext e'.fz), by omega⟩
  · subst ea eb ep
    have ln := pairs_len xs ys
    cases px with
    | tup t ra =>
      cases py with
      | tup t2 rb =>
        have la := ra.length
        have lb := rb.length
        refine ⟨_, _, _, _, rfl, .inr ⟨r1.sqT t, r1.sqT t2, out _ w1 _ q1 r1 e1 ⟨fun i w' e' r' hi => ?_, fun i w' x H'' e' r' ⟨T, x1, y1, ev, hT, eH, hx, hy⟩ d hd => ?_, fun w' e' r' => ?_⟩⟩⟩
        · exact ⟨_, _, _, _, r'.sqT (t.ext e'.fz), r'.sqT (t2.ext e'.fz), List.getElem?_eq_getElem (by omega), List.getElem?_eq_getElem (by omega)⟩
        · subst ev eH
          exact zip_yld r' e' ra rb (hx _ (r'.sqT (t.ext e'.fz))) (hy _ (r'.sqT (t2.ext e'.fz))) hT hd
        · exact ⟨_, _, r'.sqT (t.ext e'.fz), r'.sqT (t2.ext e'.fz), by omega⟩

/-! ### max, min, sum of a list of whole numbers -/
theorem ints_of {K : PySem.W.Frag} {w : Wd} : ∀ {ns : List Int} {xs : List V}, RpAll K w (ns.map Dv.int) xs → xs = ns.map V.int
  | [], _, h => by cases h; rfl
  | n :: ns, _, h => by
    cases h with
    | cons a t => cases a; rw [ints_of t]; rfl
def cMaxL : DC := fun ds h Q => ∃ (d : Dv) (ns : List Int), ds = [d] ∧ lstOf h d = some (ns.map Dv.int) ∧ 0 < ns.length ∧ ∀ m, m ∈ ns → (∀ y, y ∈ ns → y ≤ m) → Q (.int m) h
def cMinL : DC := fun ds h Q => ∃ (d : Dv) (ns : List Int), ds = [d] ∧ lstOf h d = some (ns.map Dv.int) ∧ 0 < ns.length ∧ ∀ m, m ∈ ns → (∀ y, y ∈ ns → m ≤ y) → Q (.int m) h
theorem c_maxL {X : Cx} (hc : X.calm = true) : C3 X (.builtin "max") cMaxL := by
  intro pins s σ H xs us Q I rx h
  obtain ⟨ds, w, Q3, e, r, ra, ⟨d, ns, rfl, hs, hp, q⟩, out⟩ := h
  subst e
  obtain ⟨x, rfl, rp⟩ := ra.one
  obtain ⟨p, ys, rfl, hq, rb⟩ := lstOf_at r rp hs
  rw [ints_of rb] at hq
  exact cr_max hc pins s σ w.H _ us Q I rx ⟨p, ns, rfl, hq, hp, fun m hm hy => out.go r (Ext.refl w) (.int _) (q m hm hy)⟩
theorem c_minL {X : Cx} (hc : X.calm = true) : C3 X (.builtin "min") cMinL := by
  intro pins s σ H xs us Q I rx h
  obtain ⟨ds, w, Q3, e, r, ra, ⟨d, ns, rfl, hs, hp, q⟩, out⟩ := h
  subst e
  obtain ⟨x, rfl, rp⟩ := ra.one
  obtain ⟨p, ys, rfl, hq, rb⟩ := lstOf_at r rp hs
  rw [ints_of rb] at hq
  exact cr_min hc pins s σ w.H _ us Q I rx ⟨p, ns, rfl, hq, hp, fun m hm hy => out.go r (Ext.refl w) (.int _) (q m hm hy)⟩
/-- text.upper() -/
@[simp] def mUpper : DM := fun d ds h Q => ∃ a, d = .str a ∧ ds = [] ∧ a.length ≤ 5592405 ∧ Q (.str (PySem.Txt.upper a)) h
theorem m_upper {X : Cx} : M3 X "str.upper" mUpper := by
  intro pins s σ H x xs v us Q I rx rs h
  obtain ⟨d, ds, w, Q3, e, r, p, pa, ⟨a, rfl, rfl, hz, q⟩, out⟩ := h
  subst e
  cases p
  cases pa
  exact mt_upper pins s σ w.H _ _ v us Q I rx rs ⟨a, rfl, rfl, hz, out.go r (Ext.refl w) (.str _) q⟩

def cSumL : DC := fun ds h Q => ∃ (d : Dv) (ns : List Int), ds = [d] ∧ lstOf h d = some (ns.map Dv.int) ∧ Q (.int ns.sum) h
theorem c_sumL {X : Cx} (hc : X.calm = true) : C3 X (.builtin "sum") cSumL := by
  intro pins s σ H xs us Q I rx h
  obtain ⟨ds, w, Q3, e, r, ra, ⟨d, ns, rfl, hs, q⟩, out⟩ := h
  subst e
  obtain ⟨x, rfl, rp⟩ := ra.one
  obtain ⟨p, ys, rfl, hq, rb⟩ := lstOf_at r rp hs
  rw [ints_of rb] at hq
  exact cr_sum hc pins s σ w.H _ us Q I rx ⟨p, ns, rfl, hq, out.go r (Ext.refl w) (.int _) q⟩

/-! ### sorted of a list of whole numbers (any length), of texts, of a dict's keys that are texts (fewer than 64) -/
def cSorted : DC := fun ds h Q => ∃ d, ds = [d] ∧ ((∃ ns : List Int, lstOf h d = some (ns.map Dv.int) ∧ ∀ ms : List Int, ms.Perm ns → ms.Pairwise (· ≤ ·) → Q (.lst (ms.map Dv.int)) h) ∨
  (∃ xs : List Str, lstOf h d = some (xs.map Dv.str) ∧ xs.length < 64 ∧ ∀ ys : List Str, ys.Perm xs → PyProof.Rows.sortedS ys = true → Q (.lst (ys.map Dv.str)) h) ∨
  ∃ a kvs, ∃ ks : List Str, d = .ref a ∧ KAt h a kvs ∧ kvs.map (·.1) = ks.map Sum.inr ∧ ks.length < 64 ∧ ∀ ys : List Str, ys.Perm ks → PyProof.Rows.sortedS ys = true → Q (.lst (ys.map Dv.str)) h)
theorem of_ints {K : PySem.W.Frag} {w : Wd} : ∀ (ns : List Int), RpAll K w (ns.map Dv.int) (ns.map V.int)
  | [] => .nil
  | n :: ns => .cons (.int n) (of_ints ns)
theorem RpK.keys {κ : Type} {K : PySem.W.Frag} {w : Wd} : ∀ {kvs : List (κ × Dv)} {xs : List (κ × V)}, RpK K w kvs xs → kvs.map (·.1) = xs.map (·.1)
  | [], _, h => by cases h; rfl
  | _ :: _, _, h => by
    cases h with
    | cons a b =>
      rw [List.map_cons, List.map_cons, RpK.keys b]
      congr 1
      exact a.1
theorem c_sorted {X : Cx} (hc : X.calm = true) : C3 X (.builtin "sorted") cSorted := by
  intro pins s σ H xs us Q I rx h
  obtain ⟨ds, w, Q3, e, r, ra, ⟨d, rfl, q⟩, out⟩ := h
  subst e
  obtain ⟨x, rfl, rp⟩ := ra.one
  rcases q with ⟨ns, hs, q⟩ | ⟨zs, hs, hl, q⟩ | ⟨a, kvs, ks, rfl, hk, hm, hl, q⟩
  · obtain ⟨p, ys, rfl, hq, rb⟩ := lstOf_at r rp hs
    rw [ints_of rb] at hq
    refine cr_sortedI pins s σ w.H _ us Q I rx ⟨p, ns, rfl, hq, fun ms l hp hw nl => ?_⟩
    obtain ⟨r2, e2, p2⟩ := new_lst (p := l) r (of_ints ms) nl
    exact out.go r2 e2 p2 (q ms hp hw)
  · obtain ⟨p, ys, rfl, hq, rb⟩ := lstOf_at r rp hs
    rw [strs_of rb] at hq
    refine cr_sortedS pins s σ w.H _ us Q I rx ⟨p, zs, rfl, hq, hl, fun ms l hp hw nl => ?_⟩
    obtain ⟨r2, e2, p2⟩ := new_lst (p := l) r (of_strs ms) nl
    exact out.go r2 e2 p2 (q ms hp hw)
  · cases rp
    obtain ⟨ws, hH, rk⟩ := r.rdK hk
    refine call_sortedD hc pins s σ w.H _ us Q I rx ⟨a, ws, ks, rfl, hH, by rw [← rk.keys]; exact hm, hl, fun ms l hp hw nl => ?_⟩
    obtain ⟨r2, e2, p2⟩ := new_lst (p := l) r (of_strs ms) nl
    exact out.go r2 e2 p2 (q ms hp hw)
end G3

namespace G3
open PySem L2 RZ

/-! ### sorted of data of any kind, any length -/
/-- the order of data -/
def dle : Dv → Dv → Bool := PySem.W.dataLe false py
theorem eachIs_pairs {K : PySem.W.Frag} {w : Wd} : ∀ {xs : List Dv} {vs : List V} {us : List Value}, RpAll K w xs vs → Vals vs us → PySem.W.EachIs (fun u (b : V × Dv) => RelV b.1 u) us (vs.zip xs)
  | [], _, _, h, r => by
    cases h
    cases r
    exact .nil
  | x :: xs, _, _, h, r => by
    cases h with
    | cons a b =>
      cases r with
      | cons c d => exact .cons c (eachIs_pairs b d)
theorem vals_each : ∀ {us : List Value} {bs : List (V × Dv)}, PySem.W.EachIs (fun u (b : V × Dv) => RelV b.1 u) us bs → Vals (bs.map (·.1)) us
  | _, _, .nil => .nil
  | _, _, .cons a b => .cons a (vals_each b)
theorem rpAll_zip {K : PySem.W.Frag} {w : Wd} : ∀ {xs : List Dv} {vs : List V}, RpAll K w xs vs → ∀ b, b ∈ vs.zip xs → Rp K w b.2 b.1
  | _, _, .nil, b, h => by simp at h
  | _, _, .cons a t, b, h => by
    rw [List.zip_cons_cons, List.mem_cons] at h
    rcases h with rfl | h
    · exact a
    · exact rpAll_zip t b h
theorem rpAll_of {K : PySem.W.Frag} {w : Wd} : ∀ {bs : List (V × Dv)}, (∀ b, b ∈ bs → Rp K w b.2 b.1) → RpAll K w (bs.map (·.2)) (bs.map (·.1))
  | [], _ => .nil
  | b :: bs, h => .cons (h b List.mem_cons_self) (rpAll_of fun c hc => h c (List.mem_cons_of_mem _ hc))
theorem dats_mem : ∀ {xs : List Dv}, dats xs = true → ∀ x, x ∈ xs → dat x = true
  | [], _, x, h => by simp at h
  | y :: ys, hd, x, h => by
    simp only [dats, Bool.and_eq_true] at hd
    rcases List.mem_cons.mp h with rfl | h
    · exact hd.1
    · exact dats_mem hd.2 x h
theorem each_mem {α β : Type} {R R' : α → β → Prop} : ∀ {us : List α} {bs : List β}, PySem.W.EachIs R us bs → (∀ u b, b ∈ bs → R u b → R' u b) → PySem.W.EachIs R' us bs
  | _, _, .nil, _ => .nil
  | _, _, .cons a t, h => .cons (h _ _ List.mem_cons_self a) (each_mem t fun u b hb => h u b (List.mem_cons_of_mem _ hb))
theorem zip_snd {α β : Type} : ∀ {vs : List α} {xs : List β}, xs.length = vs.length → (vs.zip xs).map (·.2) = xs ∧ (vs.zip xs).map (·.1) = vs
  | [], [], _ => ⟨rfl, rfl⟩
  | [], _ :: _, h => by simp at h
  | _ :: _, [], h => by simp at h
  | v :: vs, x :: xs, h => by
    obtain ⟨a, b⟩ := zip_snd (vs := vs) (xs := xs) (by simpa using h)
    exact ⟨by rw [List.zip_cons_cons, List.map_cons, a], by rw [List.zip_cons_cons, List.map_cons, b]⟩
def cSortedD : DC := fun ds h Q => ∃ d xs, ds = [d] ∧ lstOf h d = some xs ∧ dats xs = true ∧ (∀ x, x ∈ xs → dep x ≤ 60) ∧ PySem.W.AllAlike (xs.map py) ∧ PySem.W.Sortable (xs.map py) ∧ Q (.lst (xs.mergeSort dle)) h
theorem c_sortedD {X : Cx} (hu : X.A.units + 64 < cLine) : C3 X (.builtin "sorted") cSortedD := by
  intro pins s σ H vs us Q I rx h
  obtain ⟨ds, w, Q3, e, r, ra, ⟨d, xs, rfl, hs, hd, hdp, hal, hso, q⟩, out⟩ := h
  subst e
  obtain ⟨x, rfl, rp⟩ := ra.one
  obtain ⟨p, ys, rfl, hq, rb⟩ := lstOf_at r rp hs
  obtain ⟨its, rv, hl, hz⟩ := I.list hq
  rw [Vals.ref1 rx]
  have hlen := rb.length
  obtain ⟨z2, z1⟩ := zip_snd hlen
  have hmem : ∀ b, b ∈ ys.zip xs → Rp X.K w b.2 b.1 ∧ b.2 ∈ xs := fun b hb => ⟨rpAll_zip rb b hb, (List.of_mem_zip hb).2⟩
  have ee := eachIs_pairs rb rv
  have er : PySem.W.EachIs (fun u (b : V × Dv) => ∃ as, Reads s.heap u (py b.2) as) its (ys.zip xs) := each_mem ee fun u b hb rel => reads_of I rfl r (hmem b hb).1 rel (dats_mem hd _ (hmem b hb).2)
  have em : (ys.zip xs).map (fun b => py b.2) = xs.map py := by
    have q2 : (ys.zip xs).map (fun b => py b.2) = ((ys.zip xs).map (fun b => b.2)).map py := by rw [List.map_map]; rfl
    rw [q2, z2]
  have hL : (ys.zip xs).length ≤ sizeLine := by
    rw [List.length_zip]
    omega
  refine PySem.W.sorted_data (enc := fun b : V × Dv => py b.2) hl.isList ee er (by rw [em]; exact hal) (by rw [em]; exact hso) hL (fun b hb => ?_) fun out' h1 h2 => ?_
  · have := hdp _ (hmem b hb).2
    simp only [depth_py]
    omega
  · have eS : ((ys.zip xs).mergeSort (PySem.W.dataLe false fun b : V × Dv => py b.2)).map (·.2) = xs.mergeSort dle := by
      have q2 := List.map_mergeSort (r := PySem.W.dataLe false fun b : V × Dv => py b.2) (s := dle) (f := fun b : V × Dv => b.2) (l := ys.zip xs) (fun a _ b _ => rfl)
      rw [z2] at q2
      exact q2
    have hpm : ∀ b, b ∈ (ys.zip xs).mergeSort (PySem.W.dataLe false fun b : V × Dv => py b.2) → Rp X.K w b.2 b.1 := fun b hb => (hmem b ((List.mergeSort_perm _ _).mem_iff.mp hb)).1
    have rN := rpAll_of hpm
    rw [eS] at rN
    have rV := vals_each h2
    obtain ⟨ep, he'⟩ := PyProof.Rows.sortedAll_at s.heap its out'.toArray
    have np : w.H (s.heap.objs.size + 1) = none := I.hok.fresh (Nat.le_succ _)
    obtain ⟨r2, e2, p2⟩ := new_lst (p := s.heap.objs.size + 1) r rN np
    refine ⟨.ref _, upd w.H (s.heap.objs.size + 1) (.lst (((ys.zip xs).mergeSort (PySem.W.dataLe false fun b : V × Dv => py b.2)).map (·.1))), I.laid (t' := s.toks) (fun _ _ => PyProof.Rows.sortedAll_old) (Nat.le_succ _) ⟨?_, out', ep, rV, he'⟩, rfl, out.go r2 e2 p2 q⟩
    rw [List.length_map, (List.mergeSort_perm _ _).length_eq]
    exact hL
/-- sorted(xs): ints, texts, a dict's keys, or data of one kind -/
def cSorted2 : DC := fun ds h Q => cSorted ds h Q ∨ cSortedD ds h Q
theorem c_sorted2 {X : Cx} (hc : X.calm = true) (hu : X.A.units + 64 < cLine) : C3 X (.builtin "sorted") cSorted2 := by
  intro pins s σ H vs us Q I rx h
  obtain ⟨ds, w, Q3, e, r, ra, q, out⟩ := h
  rcases q with q | q
  · exact c_sorted hc pins s σ H vs us Q I rx ⟨ds, w, Q3, e, r, ra, q, out⟩
  · exact c_sortedD hu pins s σ H vs us Q I rx ⟨ds, w, Q3, e, r, ra, q, out⟩
end G3

/-! sets of ints and texts: any number below the model's scan bound, the table known to rise -/
namespace G3
open PySem PySem.Spec PyProof.Rows L2

/-- the key of a value -/
def kof : Value → Key
  | .int i _ => .inl i
  | .str x _ => .inr x
  | _ => .inl 0
theorem kof_is {k : Key} {v : Value} (h : keyIs k v = true) : kof v = k := by
  rcases keyIs_shape h with ⟨i, t, rfl, rfl⟩ | ⟨x, t, rfl, rfl⟩ <;> rfl
def keyE (e : Int × Value) : Key := kof e.2
def GoodM (w : World) (e : Int × Value) : Prop := ∃ k, keyIs k e.2 = true ∧ e.1 = keyH w k
/-- the set of ints and texts at a: its members, their number; its table rises and can be walked -/
def SetM (P : Program) (w : World) (h : Heap) (a : Addr) (S : Key → Bool) (n : Nat) : Prop :=
  ∃ o es ep t, h.get? a = some o ∧ o.ExactSet ∧ o.data = .set es ep t ∧ (∀ e ∈ es.toList, GoodM w e) ∧ (es.toList.map keyE).Nodup ∧ (∀ k, S k = true ↔ k ∈ es.toList.map keyE) ∧
    es.size < scanBound ∧ t.fits es.size = true ∧ es.size = n ∧ Ris t.place.toList ∧ (w.params.followText "set-order" = true ∨ t.led = true)
section
variable {P : Program} {w : World} {h h' : Heap} {a : Addr} {S : Key → Bool} {n : Nat}
theorem key_scanV {k : Key} {v : Value} (h : keyIs k v = true) : v.scannable = true := by
  rcases keyIs_shape h with ⟨i, t, rfl, rfl⟩ | ⟨x, t, rfl, rfl⟩ <;> rfl
theorem SetM.at (R : SetM P w h a S n) (k : ∀ o, h.get? a = some o → h'.get? a = some o) : SetM P w h' a S n := by
  obtain ⟨o, es, ep, t, ho, r⟩ := R
  exact ⟨o, es, ep, t, k o ho, r⟩
theorem goodM_elems {l : List (Int × Value)} (g : ∀ e ∈ l, GoodM w e) : ElemsOf (mixKind P w) l := fun e he => by
  obtain ⟨k, h1, h2⟩ := g e he
  exact ⟨⟨k, h1, h2⟩, key_scanV h1⟩
theorem goodM_is {e : Int × Value} (g : GoodM w e) (k : Key) : (mixKind P w).is k e.2 = true ↔ keyE e = k := by
  obtain ⟨k0, h1, _⟩ := g
  refine ⟨fun z => kof_is z, fun z => ?_⟩
  have q : kof e.2 = k0 := kof_is h1
  have z' : kof e.2 = k := z
  rw [q] at z'
  rw [← z']
  exact h1
theorem goodM_mem {l : List (Int × Value)} (g : ∀ e ∈ l, GoodM w e) (k : Key) : k ∈ l.map keyE ↔ ∃ e ∈ l, (mixKind P w).is k e.2 = true := by
  rw [List.mem_map]
  exact ⟨fun ⟨e, he, q⟩ => ⟨e, he, (goodM_is (g e he) k).2 q⟩, fun ⟨e, he, q⟩ => ⟨e, he, (goodM_is (g e he) k).1 q⟩⟩
theorem SetM.setOf (R : SetM P w h a S n) : h.SetOf (mixKind P w) a S n := by
  obtain ⟨o, es, ep, t, ho, hx, hd, g, nd, hm, hb, hf, hn, _⟩ := R
  exact ⟨o, es, ep, t, ho, hx, hd, goodM_elems g, fun k => (hm k).trans (goodM_mem g k), hb, hf, hn⟩
theorem setM_fresh : SetM P w (h.push { cls := .type "set", dict := none, data := .set #[] 0 (.fresh 0 0 (!w.params.followText "set-order")) }) h.objs.size (fun _ => false) 0 :=
  ⟨_, #[], 0, _, Heap.get?_push_size _ rfl, ⟨rfl, rfl, rfl⟩, rfl, (fun e he => by simp at he), (by simp), (fun k => by simp), (by decide), (by rfl), rfl, List.Pairwise.nil, by
    show _ ∨ (!w.params.followText "set-order") = true
    cases w.params.followText "set-order"
    · exact .inr rfl
    · exact .inl rfl⟩
end
section
variable {P : Program} {w : World} {A : Around} {E : Value → Shared → Prop} {s : Shared} {a : Addr} {S : Key → Bool} {n : Nat}
/-- what the store leaves -/
structure Laid (w : World) (es : Array (Int × Value)) (t : SetTable) (S : Key → Bool) : Prop where
  good : ∀ e ∈ es.toList, GoodM w e
  nd : (es.toList.map keyE).Nodup
  mem : ∀ k, S k = true ↔ k ∈ es.toList.map keyE
  few : es.size < scanBound
  fit : t.fits es.size = true
  ris : Ris t.place.toList
  led : w.params.followText "set-order" = true ∨ t.led = true
theorem Laid.at {es : Array (Int × Value)} {t : SetTable} {h : Heap} {o : Obj} {ep : Nat} (L : Laid w es t S) (ho : h.get? a = some o) (hx : o.ExactSet) (hd : o.data = .set es ep t) : SetM P w h a S es.size :=
  ⟨o, es, ep, t, ho, hx, hd, L.good, L.nd, L.mem, L.few, L.fit, rfl, L.ris, L.led⟩
theorem setM_tail {g : Bool → Sem Unit} (hg : ∀ (b : Bool) (s₁ : Shared) (Q' : Unit → Shared → Prop), Q' () s₁ → wpAny (model P w) A (g b) Q' E s₁)
    {o : Obj} {es : Array (Int × Value)} {ep : Nat} {t : SetTable} (ho : s.heap.get? a = some o) (hex : o.ExactSet) (hd : o.data = .set es ep t)
    {es1 : Array (Int × Value)} {t2 : SetTable} {S' : Key → Bool} (L : Laid w es1 t2 S') {wasDummy : Bool} {R : Option Bool → Shared → Prop}
    (hR : ∀ h', Heap.SameBut a s.heap h' → SetM P w h' a S' es1.size → R (some true) { s with heap := h' }) :
    wpAny (model P w) A (do
        storeSet a es1 t2
        if (!wasDummy && t2.tooFull) = true then do
            g (relayAll t2 es1 (SetTable.grown es1.size)).2.2
            storeSet a (relayAll t2 es1 (SetTable.grown es1.size)).1 (relayAll t2 es1 (SetTable.grown es1.size)).2.1
            pure (some true)
          else pure (some true)) R E s := by
  refine wpAny_bind (wpAny_storeSet_of ho hd ?_ (fits_of_scanBound L.few))
  have ho1 := store_at (es' := es1) (t' := t2) ho hd
  have sb1 := Heap.SameBut.update s.heap a (Obj.putSet es1 t2)
  split
  · have pm := relayAll_perm t2 es1 (SetTable.grown es1.size)
    have hf3 := relayAll_fits t2 es1 (SetTable.grown es1.size)
    have hr3 := relayAll_ris t2 es1 (SetTable.grown es1.size)
    have hl3 := relayAll_led t2 es1 (SetTable.grown es1.size)
    generalize relayAll t2 es1 (SetTable.grown es1.size) = Z at pm hf3 hr3 hl3 ⊢
    obtain ⟨es2, t3, gave⟩ := Z
    dsimp only at pm hf3 hr3 hl3 ⊢
    have hsz : es2.size = es1.size := by rw [← Array.length_toList, pm.length_eq, Array.length_toList]
    have L2 : Laid w es2 t3 S' := ⟨fun e he => L.good e (pm.mem_iff.mp he), (pm.map keyE).nodup_iff.mpr L.nd, fun k => (L.mem k).trans (pm.map keyE).mem_iff.symm, by rw [hsz]; exact L.few, hf3, hr3,
      L.led.imp id fun z => by rw [hl3]; exact z⟩
    refine wpAny_bind (hg _ _ _ (wpAny_bind (wpAny_storeSet_of ho1 rfl ?_ (fits_of_scanBound L2.few))))
    have q : SetM P w _ a S' es2.size := L2.at (store_at (es' := es2) (t' := t3) ho1 rfl) hex rfl
    rw [hsz] at q
    exact wpAny_pure (hR _ (sb1.trans (Heap.SameBut.update _ a _)) q)
  · exact wpAny_pure (hR _ sb1 (L.at ho1 hex rfl))
theorem setM_hashed {k : Key} {v : Value} {Q : Bool → Shared → Prop} (R : SetM P w s.heap a S n) (hkey : keyIs k v = true) (room : n + 1 < scanBound)
    (hQ : ∀ h', Heap.SameBut a s.heap h' → SetM P w h' a (fun j => S j || decide (j = k)) (if S k = true then n else n + 1) → Q (!S k) { s with heap := h' }) :
    wpAny (model P w) A (setAddHashed a v ((mixKind P w).hash k)) Q E s := by
  obtain ⟨o, es, ep, t, ho, hex, hd, g, nd, hm, hb, hf, hn, hr, hl⟩ := R
  have hkey' : (mixKind P w).is k v = true := hkey
  have hsc : v.scannable = true := key_scanV hkey
  have hel : ElemsOf (mixKind P w) es.toList := goodM_elems g
  unfold setAddHashed setAddHashedIn
  refine wpAny_holding (wpAny_bind (wpAny_setState_of ho hd hf ?_))
  dsimp only
  rw [byScan_of hsc hb hel]
  simp only [↓reduceIte]
  unfold setAddByScan
  refine wpAny_bind (wpAny_bind (wpAny_rule (wpAny_bind (wpAny_setScan_of hkey' ho hd hf hel ?_))))
  cases hfi : List.findIdx? (fun e => (mixKind P w).is k e.2) es.toList with
  | some j =>
    dsimp only
    obtain ⟨hj, pj, _⟩ := List.findIdx?_eq_some_iff_getElem.mp hfi
    have hSk : S k = true := (hm k).2 ((goodM_mem (P := P) (w := w) g k).2 ⟨es.toList[j], List.getElem_mem hj, pj⟩)
    refine wpAny_pure (wpAny_pure ?_)
    have q := hQ s.heap (Heap.SameBut.refl a s.heap) ⟨o, es, ep, t, ho, hex, hd, g, nd, fun i => by
      rw [Bool.or_eq_true, decide_eq_true_eq, ← hm i]
      exact ⟨fun z => z.elim id (fun e => e ▸ hSk), .inl⟩, hb, hf, by rw [if_pos hSk]; exact hn, hr, hl⟩
    rw [hSk] at q
    exact q
  | none =>
    dsimp only
    have hnk : k ∉ es.toList.map keyE := fun z => by
      obtain ⟨e, he, q⟩ := (goodM_mem (P := P) (w := w) g k).1 z
      have c := List.findIdx?_eq_none_iff.mp hfi e he
      rw [q] at c
      cases c
    have hSk : S k = false := by
      cases q : S k with
      | false => rfl
      | true => exact absurd ((hm k).1 q) hnk
    have hgw : ∀ (b : Bool) {s₁ : Shared} {Q' : Unit → Shared → Prop}, Q' () s₁ → wpAny (model P w) A (match b with | true => rule "set.scan.the-table-gave-way" | false => pure ()) Q' E s₁ :=
      fun b s₁ Q' q => by cases b <;> first | exact wpAny_pure q | exact wpAny_rule q
    have pm := layNew_perm t es ((mixKind P w).hash k) v
    have hf1 := layNew_fits t es ((mixKind P w).hash k) v
    have hr1 := layNew_ris t es ((mixKind P w).hash k) v hr
    have hl1 := layNew_led t es ((mixKind P w).hash k) v
    generalize layNew t es ((mixKind P w).hash k) v = Z at pm hf1 hr1 hl1 ⊢
    obtain ⟨es1, t1, wasDummy, gave⟩ := Z
    dsimp only at pm hf1 hr1 hl1 ⊢
    rw [Array.toList_push] at pm
    have pc : es1.toList.Perm (((mixKind P w).hash k, v) :: es.toList) := pm.trans (List.perm_append_singleton _ _)
    have ek : keyE ((mixKind P w).hash k, v) = k := kof_is hkey
    have pk : (es1.toList.map keyE).Perm (k :: es.toList.map keyE) := by
      have q := pc.map keyE
      rw [List.map_cons, ek] at q
      exact q
    have hsz : es1.size = n + 1 := by rw [← Array.length_toList, pc.length_eq, List.length_cons, Array.length_toList, hn]
    have LL : ∀ t2 : SetTable, t2.fits es1.size = true → Ris t2.place.toList → (w.params.followText "set-order" = true ∨ t2.led = true) → Laid w es1 t2 (fun j => S j || decide (j = k)) := fun t2 f r l => by
      refine ⟨fun e he => ?_, pk.nodup_iff.mpr (List.nodup_cons.mpr ⟨hnk, nd⟩), fun i => ?_, by rw [hsz]; exact room, f, r, l⟩
      · rcases List.mem_cons.mp (pc.mem_iff.mp he) with z | z
        · rw [z]; exact ⟨k, hkey, rfl⟩
        · exact g e z
      · rw [Bool.or_eq_true, decide_eq_true_eq, hm i, pk.mem_iff, List.mem_cons]
        exact Or.comm
    have hled : w.params.followText "set-order" = true ∨ t1.led = true := hl.imp id fun z => by rw [hl1]; exact z
    have fin : ∀ h', Heap.SameBut a s.heap h' → SetM P w h' a (fun j => S j || decide (j = k)) es1.size → Q true { s with heap := h' } := fun h' sb r => by
      have q := hQ h' sb
      rw [hSk] at q
      rw [hsz] at r
      exact q r
    refine wpAny_bind (hgw _ ?_)
    split
    · refine wpAny_bind ?_
      rw [hashByValue_scannable 8 hsc]
      refine wpAny_pure ?_
      refine setM_tail ?_ ho hex hd (LL _ ?_ ?_ ?_) ?_
      · intro b s₁ Q' q; cases b <;> first | exact wpAny_pure q | exact wpAny_rule q
      · first | (split <;> first | exact hf1 | exact SetTable.fits_plain_off hf1) | exact hf1
      · first | (split <;> exact hr1) | exact hr1
      · first | (split <;> exact hled) | exact hled
      · intro h' sb r; dsimp only; exact wpAny_pure (fin h' sb r)
    · refine wpAny_bind (wpAny_pure ?_)
      simp only [↓reduceIte]
      refine setM_tail ?_ ho hex hd (LL _ hf1 hr1 hled) ?_
      · intro b s₁ Q' q; cases b <;> first | exact wpAny_pure q | exact wpAny_rule q
      · intro h' sb r; dsimp only; exact wpAny_pure (fin h' sb r)
/-- found.add(k) -/
theorem setM_add {k : Key} {v : Value} {Q : Value → Shared → Prop} (R : SetM P w s.heap a S n) (hkey : keyIs k v = true) (room : n + 1 < scanBound)
    (hQ : ∀ h', Heap.SameBut a s.heap h' → SetM P w h' a (fun j => S j || decide (j = k)) (if S k = true then n else n + 1) → Q .none { s with heap := h', toks := s.toks + 1 }) :
    wpAny (model P w) A (call (.builtin "set.add") [.ref a, v]) Q E s := by
  have hS : s.heap.SetOf (mixKind P w) a S n := R.setOf
  refine wpAny_call_entry F.slot_set_add hS.typeIs F.entry_set_add ?_ (F.args_set_add_2 _ _)
  unfold Builtin.«set.add» Builtin.Frozenset.oneOther
  simp only [List.isEmpty_nil, bind_assoc]
  unfold Builtin.Frozenset.addrOf setAdd
  refine wpAny_bind (wpAny_pure ?_)
  try dsimp only
  refine wpAny_bind (wpAny_pure ?_)
  try dsimp only
  refine wpAny_bind (wpAny_holding (wpAny_bind ((mixKind P w).pyHash (k := k) hkey ?_)))
  refine setM_hashed (s := { s with toks := s.toks + 1 }) R hkey room fun h' sb r => ?_
  show wpAny _ _ (ret Value.none) _ _ _
  exact wpAny_pure ⟨_, rfl, hQ h' sb r⟩
end
end G3

/-! sorted of a set of ints, of a set of texts -/
namespace G3
open PySem PySem.Spec PyProof.Rows L2

/-- a key as data, as a tree -/
def keyP : Key → PyData
  | .inl i => .int i
  | .inr x => .str x
theorem key_reads {h : Heap} {k : Key} {v : Value} (e : keyIs k v = true) : Reads h v (keyP k) [] := by
  rcases keyIs_shape e with ⟨i, t, rfl, rfl⟩ | ⟨x, t, rfl, rfl⟩
  · exact .int _ _
  · exact .str _ _
/-- all of one sort -/
def OneSort (ks : List Key) : Prop := (∃ is : List Int, ks = is.map Sum.inl) ∨ ∃ xs : List Str, ks = xs.map Sum.inr
theorem oneSort_of {ks : List Key} : ((∀ k ∈ ks, ∃ i, k = Sum.inl i) ∨ (∀ k ∈ ks, ∃ x, k = Sum.inr x)) → OneSort ks := by
  rintro (h | h)
  · refine .inl ?_
    induction ks with
    | nil => exact ⟨[], rfl⟩
    | cons k t ih =>
      obtain ⟨i, rfl⟩ := h k List.mem_cons_self
      obtain ⟨is, rfl⟩ := ih fun j hj => h j (List.mem_cons_of_mem _ hj)
      exact ⟨i :: is, rfl⟩
  · refine .inr ?_
    induction ks with
    | nil => exact ⟨[], rfl⟩
    | cons k t ih =>
      obtain ⟨i, rfl⟩ := h k List.mem_cons_self
      obtain ⟨is, rfl⟩ := ih fun j hj => h j (List.mem_cons_of_mem _ hj)
      exact ⟨i :: is, rfl⟩
theorem each_keys : ∀ {vs : List Value}, (∀ v ∈ vs, ∃ k, keyIs k v = true) → PySem.W.EachIs (fun v k => keyIs k v = true) vs (vs.map kof)
  | [], _ => .nil
  | v :: vs, h => by
    obtain ⟨k, hk⟩ := h v List.mem_cons_self
    refine .cons ?_ (each_keys fun u hu => h u (List.mem_cons_of_mem _ hu))
    rw [kof_is hk]
    exact hk
section
variable {P : Program} {w : World} {A : Around} {E : Value → Shared → Prop} {s : Shared} {a : Addr} {S : Key → Bool} {n : Nat}
theorem sorted_setM {Q : Value → Shared → Prop} (R : SetM P w s.heap a S n) (hh : A.handled = none) (hu : A.units + 64 < cLine)
    (ho1 : (∀ k, S k = true → ∃ i, k = Sum.inl i) ∨ (∀ k, S k = true → ∃ x, k = Sum.inr x))
    (hQ : ∀ s' p (out : List Value) (c : Nat) (ks : List Key), (∀ b o, s.heap.get? b = some o → s'.heap.get? b = some o) → s'.gens = s.gens → s'.os = s.os → s.heap.objs.size ≤ p →
      s'.heap.get? p = some (seqObj "list" out.toArray c) → PySem.W.EachIs (fun v k => keyIs k v = true) out ks → ks.Nodup → (∀ k, k ∈ ks ↔ S k = true) → ks.length = n → ks.Pairwise (fun k j => PySem.W.dataLe false keyP k j = true) → Q (.ref p) s') :
    wpAny (model P w) A (call (.builtin "sorted") [.ref a]) Q E s := by
  obtain ⟨o, es, ep, t, ho, hex, hd, g, nd, hm, hb, hf, hn, hr, hl⟩ := R
  refine Calls.call_function_entry kind_sorted plain_sorted entry_sorted (args_sorted1 _) ?_
  unfold Builtin.«sorted»
  refine wpAny_bind (m := checkCount "sorted" 1 1 _) (wpAny_pure ?_)
  refine wpAny_bind (collect_set (A := A.in1) hh ⟨o, ho, hex.1, hd⟩ hf hb hr hl fun s1 vs k1 hz g1 o1 pm => ?_)
  have hvl : vs.length = n := by rw [pm.length_eq, List.length_map, Array.length_toList]; exact hn
  have hK : ∀ v ∈ vs, ∃ k, keyIs k v = true := fun v hv => by
    obtain ⟨e, he, q⟩ := List.mem_map.mp (pm.mem_iff.mp hv)
    obtain ⟨k, h1, _⟩ := g e he
    exact ⟨k, by rw [← q]; exact h1⟩
  have ee := each_keys hK
  have pk : (vs.map kof).Perm (es.toList.map keyE) := by
    have q := pm.map kof
    rw [List.map_map] at q
    exact q
  have hone : OneSort (vs.map kof) := by
    refine oneSort_of ?_
    have hS : ∀ k ∈ vs.map kof, S k = true := fun k hk => (hm k).2 (pk.mem_iff.mp hk)
    exact ho1.imp (fun h k hk => h k (hS k hk)) (fun h k hk => h k (hS k hk))
  have hal : PySem.W.AllAlike ((vs.map kof).map keyP) := by
    intro x hx y hy
    rcases hone with ⟨is, e⟩ | ⟨is, e⟩ <;> rw [e] at hx hy <;> simp only [List.mem_map] at hx hy <;> obtain ⟨_, ⟨i, _, rfl⟩, rfl⟩ := hx <;> obtain ⟨_, ⟨j, _, rfl⟩, rfl⟩ := hy <;> simp [keyP, PySem.W.alike]
  have hso : PySem.W.Sortable ((vs.map kof).map keyP) := by
    refine .inr fun d hdm => ?_
    obtain ⟨k, _, rfl⟩ := List.mem_map.mp hdm
    cases k <;> exact ⟨(fun z => by cases z), fun xs z => by cases z⟩
  refine wpAny_bind (wpAny_newList ?_ (by rw [hvl]; exact fits_of_scanBound (by omega)))
  have hoL : (s1.heap.push (seqObj "list" vs.toArray 0)).get? s1.heap.objs.size = some (seqObj "list" vs.toArray 0) := Heap.get?_push_size _ rfl
  refine wpAny_bind (wpAny_holding (PySem.W.list_sort_data (enc := keyP) (bs := vs.map kof) hoL ee (ee.mono fun v k e => ⟨[], key_reads e, by simp⟩) hal hso (by rw [List.length_map, hvl]; exact fits_of_scanBound (by omega)) (fun k _ => ?_) fun out q1 q2 => ?_))
  · have z : (keyP k).depth = 0 := by cases k <;> simp [keyP, PyData.depth]
    rw [z]
    show A.units + 1 + 1 + 0 < cLine
    omega
  · obtain ⟨c, hc⟩ := sortedHeap_at (vs := vs) (out := out.toArray) hoL
    have pn : ((vs.map kof).mergeSort (PySem.W.dataLe false keyP)).Perm (es.toList.map keyE) := (List.mergeSort_perm _ _).trans pk
    refine wpAny_pure ⟨_, rfl, hQ _ s1.heap.objs.size out c _ (fun b u e => ?_) g1 o1 hz hc q2 (pn.nodup_iff.mpr nd) (fun k => by rw [pn.mem_iff, ← hm k]) ?_ (PySem.W.sort_pairwise (PySem.W.sortLe_total _ _ _) _)⟩
    · have q := k1 b u e
      have hlt := Heap.lt_size q
      show (sortedHeap (s1.heap.push (seqObj "list" vs.toArray 0)) s1.heap.objs.size vs out.toArray).get? b = some u
      rw [sortedHeap_old (Nat.ne_of_lt hlt) (by rw [size_push']; exact Nat.lt_succ_of_lt hlt)]
      exact Heap.get?_push_of_some _ q
    · rw [pn.length_eq, List.length_map, Array.length_toList]; exact hn
end
end G3

/-! list comprehensions of two fors -/
namespace G3
open PySem L2
@[simp] def wLc2 (vs vs1 : List Nat) (gg : GG) (gt : GT) (gi1 : GI) (gg1 : GG) (gt1 : GT) (ge : GE) (ρ : Sl) : List Dv → List Dv → Mh → (List Dv → Mh → Prop) → Prop
  | [], acc, h, Q => Q acc h
  | d :: ds, acc, h, Q => gg d (wipD ρ vs) h fun ρ2 h2 => gt ρ2 h2 fun b h3 =>
    if b = true then gi1 ρ2 h3 fun ds1 h4 => wLc vs1 gg1 gt1 ge ρ2 ds1 acc h4 fun acc1 h5 => wLc2 vs vs1 gg gt gi1 gg1 gt1 ge ρ ds acc1 h5 Q
    else wLc2 vs vs1 gg gt gi1 gg1 gt1 ge ρ ds acc h3 Q
@[simp] def gLc2 (vs vs1 : List Nat) (gi : GI) (gg : GG) (gt : GT) (gi1 : GI) (gg1 : GG) (gt1 : GT) (ge : GE) : GE := fun ρ h Q => gi ρ h fun ds h1 => wLc2 vs vs1 gg gt gi1 gg1 gt1 ge ρ ds [] h1 fun acc h2 => Q (.lst acc) h2
@[simp] def gMLc2 (vs vs1 : List Nat) (gi : GI) (gg : GG) (gt : GT) (gi1 : GI) (gg1 : GG) (gt1 : GT) (ge : GE) : GE := fun ρ h Q => gi ρ h fun ds h1 => wLc2 vs vs1 gg gt gi1 gg1 gt1 ge ρ ds [] h1 fun acc h2 => ∀ p, h2 p = none → Q (.ref p) (mput h2 p (.lst acc))
/-- what stands while a comprehension gathers at D: w1 the state ahead of D -/
structure Gath (K : PySem.W.Frag) (w1 : Wd) (D : Addr) (w : Wd) (acc : List Dv) (xs : List V) : Prop where
  at_ : w.H D = some (.lst xs)
  un : w.G D = none
  rel : Rel K w
  ext : Ext w1 w
  ra : RpAll K w acc xs
theorem Gath.start {K : PySem.W.Frag} {w1 : Wd} {D : Addr} (r1 : Rel K w1) (nD : w1.H D = none) : Gath K w1 D ⟨w1.h, w1.G, upd w1.H D (.lst [])⟩ [] [] := by
  have gD := (r1.hnone nD).1
  have ne : ∀ p u, w1.H p = some u → p ≠ D := fun p u h z => by rw [z, nD] at h; cases h
  refine ⟨upd_same, gD, r1.junkPut gD (fun _ z => by rw [nD] at z; cases z) _, ⟨fun p x h1 h2 => ⟨h2, h1⟩, fun p x h1 h2 _ => ⟨h1, ?_⟩, fun p m h1 _ => ⟨h1, rfl, ?_⟩⟩, .nil⟩
  · show upd w1.H D _ p = _
    rw [upd_ne (ne p x h2)]
    exact h2
  · obtain ⟨u, hu⟩ := r1.there h1
    exact upd_ne (ne p u hu)
theorem Gath.go {K : PySem.W.Frag} {w1 w w' : Wd} {D : Addr} {acc : List Dv} {xs : List V} (g : Gath K w1 D w acc xs) (r : Rel K w') (e : Ext w w') : Gath K w1 D w' acc xs := by
  obtain ⟨a, b⟩ := e.junk D _ g.un g.at_ (fun _ z => by cases z)
  exact ⟨b, a, r, g.ext.trans e, g.ra.ext e⟩
theorem Gath.add {K : PySem.W.Frag} {w1 w : Wd} {D : Addr} {acc : List Dv} {xs : List V} {y : Dv} {v : V} (nD : w1.H D = none) (r1 : Rel K w1) (g : Gath K w1 D w acc xs) (p : Rp K w y v) :
    Gath K w1 D ⟨w.h, w.G, upd w.H D (.lst (xs ++ [v]))⟩ (acc ++ [y]) (xs ++ [v]) ∧ Ex0 w ⟨w.h, w.G, upd w.H D (.lst (xs ++ [v]))⟩ := by
  have ne : ∀ p u, w1.H p = some u → p ≠ D := fun p u h z => by rw [z, nD] at h; cases h
  have fz : Fzs w ⟨w.h, w.G, upd w.H D (.lst (xs ++ [v]))⟩ := fun p x h1 h2 => ⟨h2, h1⟩
  have lkD : ∀ p m, w.h p = some m → p ≠ D := fun p m e z => by
    have := g.rel.hG g.un
    rw [z, this] at e; cases e
  refine ⟨⟨upd_same, g.un, g.rel.junkPut g.un (fun _ z => by rw [g.at_] at z; cases z) _, ⟨g.ext.fz, fun p x h1 h2 nt => ?_, fun p m h1 l => ?_⟩, RpAll.fz fz (g.ra.append (.cons p .nil))⟩, fz, fun p m h1 _ => ⟨h1, rfl, upd_ne (lkD p m h1)⟩⟩
  · obtain ⟨z1, z2⟩ := g.ext.junk p x h1 h2 nt
    exact ⟨z1, by show upd w.H D _ p = _; rw [upd_ne (ne p x h2)]; exact z2⟩
  · obtain ⟨z1, z2, z3⟩ := g.ext.lk p m h1 l
    exact ⟨z1, z2, (upd_ne (lkD p m z1)).trans z3⟩
theorem Good.ext0 {K : PySem.W.Frag} {ρ : Sl} {w v : Wd} {σ : St} (g : Good K ρ w σ) (r : Rel K v) (e : Ex0 w v) : Good K ρ v σ := ⟨r, g.len, fun i d h => let ⟨x, a, b⟩ := g.at_ i d h; ⟨x, a, Rp.fz e.fz b⟩⟩
theorem Ex0.fst {w1 w w' : Wd} (a : Ex0 w1 w) (e : Ext w w') : Ex0 w1 w' := a.trans e.w
/-- the gathered list told, for good or as one that may change -/
theorem Gath.done {K : PySem.W.Frag} {w w1 w' : Wd} {D : Addr} {acc : List Dv} {xs : List V} {Q3 : Kd} {Q : VK} (nD : w1.H D = none) (r1 : Rel K w1) (g : Gath K w1 D w' acc xs) (e1 : Ext w w1) (out : Out K w Q3 Q)
    (q : Q3 (.lst acc) w'.h ∨ ∀ p, w'.h p = none → Q3 (.ref p) (mput w'.h p (.lst acc))) : Q (.ref D) w'.H := by
  have ne : ∀ p u, w1.H p = some u → p ≠ D := fun p u h z => by rw [z, nD] at h; cases h
  have lkD : ∀ p m, w1.h p = some m → p ≠ D := fun p m e => by
    obtain ⟨u, hu⟩ := r1.there e
    exact ne p u hu
  rcases q with q2 | q2
  · obtain ⟨r7, fz7⟩ := g.rel.tell g.un g.at_
    refine out.go (w' := ⟨w'.h, upd w'.G D (.lst xs), w'.H⟩) r7 ⟨fun p x h1 h2 => ?_, fun p x h1 h2 nt => ?_, fun p m h1 l => ?_⟩ (.lst (.inl ⟨g.rel.hG g.un, upd_same⟩) (RpAll.fz fz7 g.ra)) q2
    · obtain ⟨z1, z2⟩ := (e1.trans g.ext).fz p x h1 h2
      exact fz7 p x z2 z1
    · obtain ⟨z1, z2⟩ := e1.junk p x h1 h2 nt
      obtain ⟨z3, z4⟩ := g.ext.junk p x z1 z2 nt
      exact ⟨by show upd w'.G D _ p = _; rw [upd_ne (ne p x z2)]; exact z3, z4⟩
    · obtain ⟨z1, z2, z3⟩ := e1.lk p m h1 l
      obtain ⟨y1, y2, y3⟩ := g.ext.lk p m z1 l
      exact ⟨y1, (upd_ne (lkD p m z1)).trans (y2.trans z2), y3.trans z3⟩
  · have r7 := g.rel.tellM g.un g.at_ g.ra
    refine out.go (w' := ⟨mput w'.h D (.lst acc), upd w'.G D (.lst xs), w'.H⟩) r7 ⟨fun p x h1 h2 => ?_, fun p x h1 h2 nt => ?_, fun p m h1 l => ?_⟩ (.ref D) (q2 D (g.rel.hG g.un))
    · obtain ⟨z1, z2⟩ := (e1.trans g.ext).fz p x h1 h2
      have n : p ≠ D := fun z => by rw [z, g.un] at z1; cases z1
      exact ⟨by show upd w'.G D _ p = _; rw [upd_ne n]; exact z1, by show mput w'.h D _ p = _; rw [mput_ne n]; exact z2⟩
    · obtain ⟨z1, z2⟩ := e1.junk p x h1 h2 nt
      obtain ⟨z3, z4⟩ := g.ext.junk p x z1 z2 nt
      exact ⟨by show upd w'.G D _ p = _; rw [upd_ne (ne p x z2)]; exact z3, z4⟩
    · obtain ⟨z1, z2, z3⟩ := e1.lk p m h1 l
      obtain ⟨y1, y2, y3⟩ := g.ext.lk p m z1 l
      exact ⟨by show mput w'.h D _ p = _; rw [mput_ne (lkD p m z1)]; exact y1, (upd_ne (lkD p m z1)).trans (y2.trans z2), y3.trans z3⟩
theorem lo_lc2 {K : PySem.W.Frag} {vs vs1 : List Nat} {gi gi1 : GI} {gg gg1 : GG} {gt gt1 : GT} {ge : GE} {σ : St} {H : Hp} {Q : VK} {F : List Dv → Mh → Kd → Prop} (hF : ∀ acc h Q3, F acc h Q3 → Q3 (.lst acc) h ∨ ∀ p, h p = none → Q3 (.ref p) (mput h p (.lst acc)))
    (h : lo K (fun ρ h Q => gi ρ h fun ds h1 => wLc2 vs vs1 gg gt gi1 gg1 gt1 ge ρ ds [] h1 fun acc h2 => F acc h2 Q) σ H Q) : tLc2 (loI K gi) (loG K vs gg) (loT K gt) (loI K gi1) (loG K vs1 gg1) (loT K gt1) (lo K ge) vs vs1 σ H Q := by
  obtain ⟨ρ, w, Q3, e, gd, q, out⟩ := h
  subst e
  refine ⟨ρ, w, _, rfl, gd, q, fun ds w1 J q1 r1 e1 ok D nD => ?_⟩
  let Inv' : Nat → Hp → Prop := fun i H' => ∃ w' acc xs, w'.H = H' ∧ Gath K w1 D w' acc xs ∧ wLc2 vs vs1 gg gt gi1 gg1 gt1 ge ρ (ds.drop i) acc w'.h (fun acc h2 => F acc h2 Q3)
  refine ⟨fun i n H' => n = ds.length - i ∧ i ≤ ds.length ∧ Inv' i H', ⟨ds.length, rfl, Nat.zero_le _, _, [], [], rfl, Gath.start r1 nD, q1⟩, fun i n H' ⟨hn, hl, w', acc, xs, eH, g', q'⟩ => ?_⟩
  subst eH hn
  by_cases hi : i < ds.length
  · rw [List.drop_eq_getElem_cons hi] at q'
    refine .inr ⟨ok.go i w' g'.ext.w g'.rel hi, Inv' (i + 1), fun H' iv => ⟨ds.length - (i + 1), by omega, rfl, hi, iv⟩, fun x H'' hy => ?_⟩
    obtain ⟨w2, eH, hh, r2, e2, p2⟩ := ok.yld i w' x H'' g'.ext.w g'.rel hy ds[i] (List.getElem?_eq_getElem hi)
    subst eH
    have g2 := g'.go r2 e2
    refine ⟨ds[i], wipD ρ vs, w2, _, rfl, (((gd.ext r1 e1).ext g'.rel g'.ext).ext r2 e2).wipe vs, p2, by rw [hh]; exact q', fun ρ3 w3 σ3 q3 gd3 e3 z3 => ⟨z3.trans (wipe_wipe σ vs vs fun _ z => z), ρ3, w3, _, rfl, gd3, q3, fun b w4 q4 r4 e4 => ?_⟩⟩
    have g4 := (g2.go gd3.rel e3).go r4 e4
    cases b with
    | false =>
      dsimp only at q4 ⊢
      rw [if_neg Bool.false_ne_true] at q4 ⊢
      exact ⟨w4, acc, xs, rfl, g4, q4⟩
    | true =>
      dsimp only at q4 ⊢
      rw [if_pos rfl] at q4 ⊢
      refine ⟨ρ3, w4, _, rfl, gd3.ext r4 e4, q4, fun ds1 w5 J1 q5 r5 e5 ok1 => ?_⟩
      have g5 := g4.go r5 e5
      have gd5 := (gd3.ext r4 e4).ext r5 e5
      let Inn : Nat → Hp → Prop := fun j H' => ∃ w' acc xs, w'.H = H' ∧ Gath K w1 D w' acc xs ∧ Ex0 w5 w' ∧ wLc vs1 gg1 gt1 ge ρ3 (ds1.drop j) acc w'.h (fun acc1 h5 => wLc2 vs vs1 gg gt gi1 gg1 gt1 ge ρ (ds.drop (i + 1)) acc1 h5 fun acc h2 => F acc h2 Q3)
      refine ⟨fun j k H' => k = ds1.length - j ∧ j ≤ ds1.length ∧ Inn j H', ⟨ds1.length, rfl, Nat.zero_le _, w5, acc, xs, rfl, g5, (Ext.refl w5).w, q5⟩, fun j k H' ⟨hk, hlj, w6, acc6, xs6, eH6, g6, x6, q6⟩ => ?_⟩
      subst eH6 hk
      by_cases hj : j < ds1.length
      · rw [List.drop_eq_getElem_cons hj] at q6
        refine .inr ⟨ok1.go j w6 x6 g6.rel hj, Inn (j + 1), fun H' iv => ⟨ds1.length - (j + 1), by omega, rfl, hj, iv⟩, fun x1 H7 hy1 => ?_⟩
        obtain ⟨w7, eH7, hh7, r7, e7, p7⟩ := ok1.yld j w6 x1 H7 x6 g6.rel hy1 ds1[j] (List.getElem?_eq_getElem hj)
        subst eH7
        have g7 := g6.go r7 e7
        have gd7 : Good K ρ3 w7 σ3 := (gd5.ext0 g6.rel x6).ext r7 e7
        refine ⟨ds1[j], wipD ρ3 vs1, w7, _, rfl, gd7.wipe vs1, p7, by rw [hh7]; exact q6, fun ρ8 w8 σ8 q8 gd8 e8 z8 => ⟨z8.trans (wipe_wipe σ3 vs1 vs1 fun _ z => z), ρ8, w8, _, rfl, gd8, q8, fun b1 w9 q9 r9 e9 => ?_⟩⟩
        have g9 := (g7.go gd8.rel e8).go r9 e9
        have x9 : Ex0 w5 w9 := ((x6.fst e7).fst e8).fst e9
        cases b1 with
        | false =>
          dsimp only at q9 ⊢
          rw [if_neg Bool.false_ne_true] at q9 ⊢
          exact ⟨w9, acc6, xs6, rfl, g9, x9, q9⟩
        | true =>
          dsimp only at q9 ⊢
          rw [if_pos rfl] at q9 ⊢
          refine ⟨ρ8, w9, _, rfl, gd8.ext r9 e9, q9, fun y wa va ⟨hz, qa⟩ ra ea pa => ?_⟩
          have ga := g9.go ra ea
          obtain ⟨gb, xb⟩ := ga.add nD r1 pa
          exact ⟨xs6, ga.at_, by rw [← ga.ra.length]; exact hz, _, acc6 ++ [y], xs6 ++ [va], rfl, gb, (x9.fst ea).trans xb, qa⟩
      · have e : j = ds1.length := by omega
        subst e
        rw [List.drop_length] at q6
        exact .inl ⟨ok1.stop w6 x6 g6.rel, w6, acc6, xs6, rfl, g6, q6⟩
  · have e : i = ds.length := by omega
    subst e
    rw [List.drop_length] at q'
    exact .inl ⟨ok.stop w' g'.ext.w g'.rel, g'.done nD r1 e1 out (hF acc w'.h Q3 q')⟩
section
variable {X : Cx} {elt tg iter tg1 iter1 : Expr} {ifs ifs1 : List Expr} {scope : Scope} {pos : Pos} {gi gi1 : GI} {gg gg1 : GG} {gt gt1 : GT} {ge : GE}
theorem e_lc2 (own : List (Str × Nat)) (vs1 : List Nat) (hc : X.calm = true) (hN : X.N.Nodup) (hi : I3 X tg iter gi) (ok : BlkOk X.N X.env.scope scope own) (hv : ∀ i ∈ vs1, i ∈ own.map (·.2))
    (hg : ∀ (s : Shared) (H : Hp) (C : Addr) (cl : List (Str × Addr)) (fp : List Addr), G3t (X.blk s H scope (compEnvC scope cl C X.env) fp) tg (own.map (·.2)) gg) (ht : ∀ (s : Shared) (H : Hp) (C : Addr) (cl : List (Str × Addr)) (fp : List Addr), T3s (X.blk s H scope (compEnvC scope cl C X.env) fp) ifs gt)
    (hi1 : ∀ (s : Shared) (H : Hp) (C : Addr) (cl : List (Str × Addr)) (fp : List Addr), I3 (X.blk s H scope (compEnvC scope cl C X.env) fp) tg1 iter1 gi1)
    (hg1 : ∀ (s : Shared) (H : Hp) (C : Addr) (cl : List (Str × Addr)) (fp : List Addr), G3t (X.blk s H scope (compEnvC scope cl C X.env) fp) tg1 vs1 gg1) (ht1 : ∀ (s : Shared) (H : Hp) (C : Addr) (cl : List (Str × Addr)) (fp : List Addr), T3s (X.blk s H scope (compEnvC scope cl C X.env) fp) ifs1 gt1)
    (he : ∀ (s : Shared) (H : Hp) (C : Addr) (cl : List (Str × Addr)) (fp : List Addr), E3 (X.blk s H scope (compEnvC scope cl C X.env) fp) elt ge) (hs : ∀ x, foldedSetIterable iter X.env x = pure x := by intro _; rfl) (hs1 : ∀ env x, foldedSetIterable iter1 env x = pure x := by intro _ _; rfl) :
    E3 X (.ListComp elt [⟨tg, iter, ifs, 0⟩, ⟨tg1, iter1, ifs1, 0⟩] scope pos) (gLc2 (own.map (·.2)) vs1 gi gg gt gi1 gg1 gt1 ge) := PEimp (pe_lc2 (g := loG X.K (List.map (fun x : Str × Nat => x.2) own) gg) (tt := loT X.K gt) (wi1 := loI X.K gi1) (g1 := loG X.K vs1 gg1) (tt1 := loT X.K gt1) (te := lo X.K ge) hc hN hi ok hv hg ht hi1 hg1 ht1 he hs hs1) fun _ _ _ h => lo_lc2 (F := fun acc h2 Q => Q (.lst acc) h2) (fun _ _ _ z => .inl z) h
theorem e_mlc2 (own : List (Str × Nat)) (vs1 : List Nat) (hc : X.calm = true) (hN : X.N.Nodup) (hi : I3 X tg iter gi) (ok : BlkOk X.N X.env.scope scope own) (hv : ∀ i ∈ vs1, i ∈ own.map (·.2))
    (hg : ∀ (s : Shared) (H : Hp) (C : Addr) (cl : List (Str × Addr)) (fp : List Addr), G3t (X.blk s H scope (compEnvC scope cl C X.env) fp) tg (own.map (·.2)) gg) (ht : ∀ (s : Shared) (H : Hp) (C : Addr) (cl : List (Str × Addr)) (fp : List Addr), T3s (X.blk s H scope (compEnvC scope cl C X.env) fp) ifs gt)
    (hi1 : ∀ (s : Shared) (H : Hp) (C : Addr) (cl : List (Str × Addr)) (fp : List Addr), I3 (X.blk s H scope (compEnvC scope cl C X.env) fp) tg1 iter1 gi1)
    (hg1 : ∀ (s : Shared) (H : Hp) (C : Addr) (cl : List (Str × Addr)) (fp : List Addr), G3t (X.blk s H scope (compEnvC scope cl C X.env) fp) tg1 vs1 gg1) (ht1 : ∀ (s : Shared) (H : Hp) (C : Addr) (cl : List (Str × Addr)) (fp : List Addr), T3s (X.blk s H scope (compEnvC scope cl C X.env) fp) ifs1 gt1)
    (he : ∀ (s : Shared) (H : Hp) (C : Addr) (cl : List (Str × Addr)) (fp : List Addr), E3 (X.blk s H scope (compEnvC scope cl C X.env) fp) elt ge) (hs : ∀ x, foldedSetIterable iter X.env x = pure x := by intro _; rfl) (hs1 : ∀ env x, foldedSetIterable iter1 env x = pure x := by intro _ _; rfl) :
    E3 X (.ListComp elt [⟨tg, iter, ifs, 0⟩, ⟨tg1, iter1, ifs1, 0⟩] scope pos) (gMLc2 (own.map (·.2)) vs1 gi gg gt gi1 gg1 gt1 ge) := PEimp (pe_lc2 (g := loG X.K (List.map (fun x : Str × Nat => x.2) own) gg) (tt := loT X.K gt) (wi1 := loI X.K gi1) (g1 := loG X.K vs1 gg1) (tt1 := loT X.K gt1) (te := lo X.K ge) hc hN hi ok hv hg ht hi1 hg1 ht1 he hs hs1) fun _ _ _ h => lo_lc2 (F := fun acc h2 Q => ∀ p, h2 p = none → Q (.ref p) (mput h2 p (.lst acc))) (fun _ _ _ z => .inr z) h
theorem s_setLc2 (i : Nat) (own : List (Str × Nat)) (vs1 : List Nat) {y : Str} {py spos : Pos} (hc : X.calm = true) (hN : X.N.Nodup) (hy : X.N[i]? = some y) (hyl : X.env.scope.names.lookup y = some .local) (hsw : swapsWith (.ListComp elt [⟨tg, iter, ifs, 0⟩, ⟨tg1, iter1, ifs1, 0⟩] scope pos) (some (.Name y py)) spos.line X.env = pure true) (hi : I3 X tg iter gi) (ok : BlkOk X.N X.env.scope scope own) (hv : ∀ i ∈ vs1, i ∈ own.map (·.2))
    (hg : ∀ (s : Shared) (H : Hp) (C : Addr) (cl : List (Str × Addr)) (fp : List Addr), G3t (X.blk s H scope (compEnvC scope cl C X.env) fp) tg (own.map (·.2)) gg) (ht : ∀ (s : Shared) (H : Hp) (C : Addr) (cl : List (Str × Addr)) (fp : List Addr), T3s (X.blk s H scope (compEnvC scope cl C X.env) fp) ifs gt)
    (hi1 : ∀ (s : Shared) (H : Hp) (C : Addr) (cl : List (Str × Addr)) (fp : List Addr), I3 (X.blk s H scope (compEnvC scope cl C X.env) fp) tg1 iter1 gi1)
    (hg1 : ∀ (s : Shared) (H : Hp) (C : Addr) (cl : List (Str × Addr)) (fp : List Addr), G3t (X.blk s H scope (compEnvC scope cl C X.env) fp) tg1 vs1 gg1) (ht1 : ∀ (s : Shared) (H : Hp) (C : Addr) (cl : List (Str × Addr)) (fp : List Addr), T3s (X.blk s H scope (compEnvC scope cl C X.env) fp) ifs1 gt1)
    (he : ∀ (s : Shared) (H : Hp) (C : Addr) (cl : List (Str × Addr)) (fp : List Addr), E3 (X.blk s H scope (compEnvC scope cl C X.env) fp) elt ge) (hs : ∀ x, foldedSetIterable iter X.env x = pure x := by intro _; rfl) (hs1 : ∀ env x, foldedSetIterable iter1 env x = pure x := by intro _ _; rfl) :
    S3 X (.Assign [.Name y py] (.ListComp elt [⟨tg, iter, ifs, 0⟩, ⟨tg1, iter1, ifs1, 0⟩] scope pos) spos) (gSet i (gLc2 (own.map (·.2)) vs1 gi gg gt gi1 gg1 gt1 ge)) := PSimp (ps_setLc2 (g := loG X.K (List.map (fun x : Str × Nat => x.2) own) gg) (tt := loT X.K gt) (wi1 := loI X.K gi1) (g1 := loG X.K vs1 gg1) (tt1 := loT X.K gt1) (te := lo X.K ge) hc hN hy hyl hsw hi ok hv hg ht hi1 hg1 ht1 he hs hs1) fun _ _ _ h => lo_set (fun _ _ _ h => lo_lc2 (F := fun acc h2 Q => Q (.lst acc) h2) (fun _ _ _ z => .inl z) h) h
theorem s_setMLc2 (i : Nat) (own : List (Str × Nat)) (vs1 : List Nat) {y : Str} {py spos : Pos} (hc : X.calm = true) (hN : X.N.Nodup) (hy : X.N[i]? = some y) (hyl : X.env.scope.names.lookup y = some .local) (hsw : swapsWith (.ListComp elt [⟨tg, iter, ifs, 0⟩, ⟨tg1, iter1, ifs1, 0⟩] scope pos) (some (.Name y py)) spos.line X.env = pure true) (hi : I3 X tg iter gi) (ok : BlkOk X.N X.env.scope scope own) (hv : ∀ i ∈ vs1, i ∈ own.map (·.2))
    (hg : ∀ (s : Shared) (H : Hp) (C : Addr) (cl : List (Str × Addr)) (fp : List Addr), G3t (X.blk s H scope (compEnvC scope cl C X.env) fp) tg (own.map (·.2)) gg) (ht : ∀ (s : Shared) (H : Hp) (C : Addr) (cl : List (Str × Addr)) (fp : List Addr), T3s (X.blk s H scope (compEnvC scope cl C X.env) fp) ifs gt)
    (hi1 : ∀ (s : Shared) (H : Hp) (C : Addr) (cl : List (Str × Addr)) (fp : List Addr), I3 (X.blk s H scope (compEnvC scope cl C X.env) fp) tg1 iter1 gi1)
    (hg1 : ∀ (s : Shared) (H : Hp) (C : Addr) (cl : List (Str × Addr)) (fp : List Addr), G3t (X.blk s H scope (compEnvC scope cl C X.env) fp) tg1 vs1 gg1) (ht1 : ∀ (s : Shared) (H : Hp) (C : Addr) (cl : List (Str × Addr)) (fp : List Addr), T3s (X.blk s H scope (compEnvC scope cl C X.env) fp) ifs1 gt1)
    (he : ∀ (s : Shared) (H : Hp) (C : Addr) (cl : List (Str × Addr)) (fp : List Addr), E3 (X.blk s H scope (compEnvC scope cl C X.env) fp) elt ge) (hs : ∀ x, foldedSetIterable iter X.env x = pure x := by intro _; rfl) (hs1 : ∀ env x, foldedSetIterable iter1 env x = pure x := by intro _ _; rfl) :
    S3 X (.Assign [.Name y py] (.ListComp elt [⟨tg, iter, ifs, 0⟩, ⟨tg1, iter1, ifs1, 0⟩] scope pos) spos) (gSet i (gMLc2 (own.map (·.2)) vs1 gi gg gt gi1 gg1 gt1 ge)) := PSimp (ps_setLc2 (g := loG X.K (List.map (fun x : Str × Nat => x.2) own) gg) (tt := loT X.K gt) (wi1 := loI X.K gi1) (g1 := loG X.K vs1 gg1) (tt1 := loT X.K gt1) (te := lo X.K ge) hc hN hy hyl hsw hi ok hv hg ht hi1 hg1 ht1 he hs hs1) fun _ _ _ h => lo_set (fun _ _ _ h => lo_lc2 (F := fun acc h2 Q => ∀ p, h2 p = none → Q (.ref p) (mput h2 p (.lst acc))) (fun _ _ _ z => .inr z) h) h
end
end G3

/-! a comprehension's block, whatever is gathered and whatever a turn does at its end -/
namespace G3
open PySem PySem.Spec PyProof.Rows L2

/-- what a turn does behind its tests: the block's environment, the thing gathered, what is wanted, what may be raised -/
abbrev Leaf := Env → Value → (Shared → Prop) → (Value → Shared → Prop) → Shared → Prop
/-- .. and what it says of the tracked heap -/
abbrev TL := Addr → L2.St → Hp → (Hp → Prop) → Prop
structure PLf (X : Cx) (vs1 : List Nat) (lf : Leaf) (tl : TL) : Prop where
  run : ∀ (pins : List (Addr × Obj)) (s : Shared) (σ : L2.St) (H : Hp) (D : Addr) (Nx : Hp → Prop) (E : Value → Shared → Prop), L2.Inv X pins σ H s → tl D σ H Nx →
    lf X.env (.ref D) (fun s' => ∃ σ' H', L2.Inv X pins σ' H' s' ∧ σ'.length = σ.length ∧ (∀ (j : Nat) v, (wipe σ vs1)[j]? = some (some v) → σ'[j]? = some (some v)) ∧ Nx H') E s
/-- one turn of the loop -/
def TurnAt (M : Model) (A : Around) (R : Result → Shared → Prop) (tg : Expr) (ifs : List Expr) (lf : Leaf) (it acc : Value) (ce : Env) (I : Nat → Shared → Prop) (n : Nat) (s : Shared) : Prop :=
  wpAny M A (pyNext it) (fun r s₁ => match r with
    | none => R (.ok .next) s₁
    | some v => wpAny M A (letOwnedTupleGo tg it v) (fun _ s₁' => wpAny M A (assign tg ce v) (fun _ s₂ =>
        wpAny M A (forIn ifs true fun c r => if r = true then do let ok ← isTrue c ce (eval c ce); pure (ForInStep.yield ok) else pure (ForInStep.yield r)) (fun ok s₃ =>
          if ok = true then lf ce acc (fun s₅ => ∃ m, m < n ∧ I m s₅) (notedBy M A ce fun e s' => R (.error e) s') s₃
          else ∃ m, m < n ∧ I m s₃) (notedBy M A ce fun e s' => R (.error e) s') s₂) (notedBy M A ce fun e s' => R (.error e) s') s₁') (notedBy M A ce fun e s' => R (.error e) s') s₁) (notedBy M A ce fun e s' => R (.error e) s') s
/-- the model's rules for such a node -/
structure NodeOk (M : Model) (A : Around) (node : Expr) (tg iter : Expr) (ifs : List Expr) (lf : Leaf) : Prop where
  loop : ∀ (R : Result → Shared → Prop) (it acc : Value) (ce : Env) (I : Nat → Shared → Prop), (∀ n s, I n s → TurnAt M A R tg ifs lf it acc ce I n s) → ∀ n s, I n s → codeAny M A (.compLoop node 0 it acc ce) R s
  start : ∀ (R : Result → Shared → Prop) (it acc : Value) (ce : Env) (s : Shared), codeAny M A (.compLoop node 0 it acc ce) R s →
    wpAny M A (pyIter it) (fun it' s' => codeAny M A (.compLoop node 0 it' acc ce) R s') (notedBy M A ce fun x s' => R (.error x) s') s → codeAny M A (.compStart node 0 it acc ce) R s
/-- what a comprehension over the things of wi asks: u0 the empty thing at D -/
def tGa (u0 : Addr → HO) (wi : TI) (g : TG) (tt : TT) (tl : TL) (vs : List Nat) : TE := fun σ H Q => wi σ H fun J H1 => ∀ D, H1 D = none → ∃ W : Nat → Nat → Hp → Prop, (∃ m, W 0 m (upd H1 D (u0 D))) ∧ ∀ i m H, W i m H →
  (J.stop i H ∧ Q (.ref D) H) ∨ (J.go i H ∧ ∃ Nx : Hp → Prop, (∀ H', Nx H' → ∃ m', m' < m ∧ W (i + 1) m' H') ∧ ∀ x H', J.yld i H x H' → g x (wipe σ vs) H' fun σ2 H2 => wipe σ2 vs = wipe σ vs ∧ tt σ2 H2 fun b H3 => if b = true then tl D σ2 H3 Nx else Nx H3)
section
variable {X : Cx}
theorem gather {pins : List (Addr × Obj)} {s : Shared} {σ : L2.St} {H : Hp} {Q : VK} {node tg iter : Expr} {ifs : List Expr} {rest : List Comprehension} {scope : Scope} {own : List (Str × Nat)} {vs1 : List Nat} {pos' : Pos} {wi : TI} {g : TG} {tt : TT} {lf : Leaf} {tl : TL} {use : Option (Value → Sem Unit)} {Qf : Value → Shared → Prop}
    {mk : Sem Value} {o0 : Obj} {u0 : Addr → HO}
    (hmk : ∀ (s : Shared) (Q : Value → Shared → Prop), Q (.ref s.heap.objs.size) { s with heap := s.heap.push o0 } → wpAny (model X.prog X.w) X.A mk Q X.xe s)
    (hf0 : o0.isFreed = false) (hu0 : ∀ (H : Hp) (h : Heap) (D : Addr), h.get? D = some o0 → ObjOk X.prog X.w H h D (u0 D))
    (hno : NodeOk (model X.prog X.w) X.A node tg iter ifs lf) (hlm : ∀ (ce : Env) (acc : Value) (P P' : Shared → Prop) (E : Value → Shared → Prop) (s : Shared), lf ce acc P E s → (∀ s, P s → P' s) → lf ce acc P' E s)
    (hc : X.calm = true) (hN : X.N.Nodup) (I : L2.Inv X pins σ H s) (hi : PI X tg iter wi) (ok : BlkOk X.N X.env.scope scope own) (hv : ∀ i ∈ vs1, i ∈ own.map (·.2))
    (hg : ∀ (s : Shared) (H : Hp) (C : Addr) (cl : List (Str × Addr)) (fp : List Addr), PG (X.blk s H scope (compEnvC scope cl C X.env) fp) tg g) (ht : ∀ (s : Shared) (H : Hp) (C : Addr) (cl : List (Str × Addr)) (fp : List Addr), PTs (X.blk s H scope (compEnvC scope cl C X.env) fp) ifs tt)
    (hl : ∀ (s : Shared) (H : Hp) (C : Addr) (cl : List (Str × Addr)) (fp : List Addr), PLf (X.blk s H scope (compEnvC scope cl C X.env) fp) vs1 lf tl)
    (hcl : clausesOf node = ⟨tg, iter, ifs, 0⟩ :: rest) (hs : ∀ x, foldedSetIterable iter X.env x = pure x)
    (h : tGa u0 wi g tt tl (own.map (·.2)) σ H Q)
    (hRR : ∀ D C s' m H', L2.Inv X pins σ H' s' → Q (.ref D) H' → s'.heap.Ns C m → FpOk X pins H' C → compPost (model X.prog X.w) X.A X.xe use Qf (.ref D) C (.ok .next) s') :
    wpAny (model X.prog X.w) X.A (comprehension node scope X.env pos' mk false (eval iter X.env) use) Qf X.xe s := by
  have hfree : ∀ y ∈ scope.names, y.2 = .free → ∃ c, X.env.cells.lookup y.1 = some c := fun y hy e => (ok.free y hy e).elim (fun k => I.ok.has _ (.inl k)) fun k => I.ok.has _ (.inr k)
  refine wpAny_comprehension_free (use := use) hcl hs (closure_ok hfree) ok.kind (fun y hy e => by rw [ok.uniq y hy, e])
    (thn (hi.run pins s σ H _ I h) fun xv s1 hx => thn hx fun itv s2 ⟨it, fp, tn, J, H2, e, I2, T, st2, f2, q⟩ => ?_)
  subst e
  refine hmk s2 _ (newEnv_comp ?_)
  generalize hD : s2.heap.objs.size = D
  obtain ⟨W, ⟨m0, w0⟩, turn⟩ := q D (I2.hok.fresh (Nat.le_of_eq hD))
  generalize hs3 : ({ s2 with heap := s2.heap.push o0 } : Shared) = s3
  have h3 : s3.heap = s2.heap.push o0 := by rw [← hs3]
  have I3 : L2.Inv X pins σ (upd H2 D (u0 D)) s3 := by
    rw [← hs3]
    refine I2.laid (t' := s2.toks) (fun b o e => Heap.get?_push_of_some _ e) (Nat.le_of_eq hD) (hu0 _ _ _ ?_)
    rw [← hD]
    exact Heap.get?_push_size _ hf0
  have f3 : ∀ b ∈ fp, FpOk X pins (upd H2 D (u0 D)) b ∧ b < s3.heap.objs.size := fun b hb => by
    obtain ⟨o, e, _⟩ := T.obj _ _ st2 b hb
    have hlt := Heap.lt_size e
    refine ⟨⟨?_, (f2 b hb).2⟩, by rw [h3, Heap.size_push]; exact Nat.lt_succ_of_lt hlt⟩
    rw [upd_ne (by rw [← hD]; exact Nat.ne_of_lt hlt)]
    exact (f2 b hb).1
  have st3 : tn 0 s3.heap := T.keep _ _ _ st2 fun b _ o e => by rw [h3]; exact Heap.get?_push_of_some _ e
  have I4 := block_start I3 ok hN f3
  have nfp : ∀ b ∈ fp, (upd H2 D (u0 D)) b = none := fun b hb => (f3 b hb).1.1
  have pg := hg s3 (upd H2 D (u0 D)) s3.heap.objs.size (cellsFrom (s3.heap.objs.size + 1) scope.names (cloFrom X.env.cells scope.names [])) fp
  have pt := ht s3 (upd H2 D (u0 D)) s3.heap.objs.size (cellsFrom (s3.heap.objs.size + 1) scope.names (cloFrom X.env.cells scope.names [])) fp
  have pl := hl s3 (upd H2 D (u0 D)) s3.heap.objs.size (cellsFrom (s3.heap.objs.size + 1) scope.names (cloFrom X.env.cells scope.names [])) fp
  show codeAny _ _ (.compStart node 0 (.ref it) (.ref D) (compEnvC scope (cellsFrom (s3.heap.objs.size + 1) scope.names (cloFrom X.env.cells scope.names [])) s3.heap.objs.size X.env)) (compPost (model X.prog X.w) X.A X.xe use Qf (.ref D) s3.heap.objs.size) { s3 with heap := pushCells (s3.heap.push { cls := .type "dict", data := .dict #[] }) scope.names }
  generalize hce : compEnvC scope (cellsFrom (s3.heap.objs.size + 1) scope.names (cloFrom X.env.cells scope.names [])) s3.heap.objs.size X.env = ce at I4 pg pt pl ⊢
  have cL : ce.locals = s3.heap.objs.size := by subst hce; rfl
  generalize hH3 : upd H2 D (u0 D) = H3 at I3 I4 pg pt pl w0 nfp f3
  generalize hs4 : ({ s3 with heap := pushCells (s3.heap.push { cls := .type "dict", data := .dict #[] }) scope.names } : Shared) = s4 at I4 ⊢
  have st4 : tn 0 s4.heap := T.keep _ _ _ st3 fun b _ o e => by rw [← hs4]; exact pushCells_keeps _ _ _ _ (Heap.get?_push_of_some _ e)
  have stat : ∀ {σ' : L2.St} {H' : Hp} {s' : Shared}, L2.Inv (X.blk s3 H3 scope ce fp) [] σ' H' s' → (∀ b ∈ fp, H' b = none) → ∀ b ∈ fp, FpOk (X.blk s3 H3 scope ce fp) [] H' b := fun {σ' H' s'} I' hn b hb =>
    ⟨hn b hb, (I'.ok.exf b hb).1, I'.ok.exfs b hb, .inl hb, fun x c e => (I'.ok.exf b hb).2 x c e, fun p hp => absurd (show p ∈ ([] : List (Addr × Obj)) ++ [] from hp) (by simp)⟩
  let At : Nat → Shared → Prop := fun n s' => ∃ i H', L2.Inv (X.blk s3 H3 scope ce fp) [] (wipe σ (own.map (·.2))) H' s' ∧ tn i s'.heap ∧ (∀ b ∈ fp, H' b = none) ∧ W i n H'
  have loop : codeAny (model X.prog X.w) X.A (.compLoop node 0 (.ref it) (.ref D) ce) (compPost (model X.prog X.w) X.A X.xe use Qf (.ref D) s3.heap.objs.size) s4 := by
    refine hno.loop _ _ _ _ At (fun n s5 ⟨i, H5, I5, st5, n5, w5⟩ => ?_) m0 s4 ⟨0, H3, I4, st4, nfp, w0⟩
    unfold TurnAt
    rcases turn i n H5 w5 with ⟨stop, qq⟩ | ⟨go, Nx, hNx, step⟩
    · refine thnF (T.done (X.blk s3 H3 scope ce fp) rfl rfl rfl hc i [] s5 _ H5 (fun _ _ => False) I5 (stat I5 n5) st5 stop) fun r s6 ⟨hr, I6⟩ => ?_
      subst hr
      have I7 : L2.Inv X pins σ H5 s6 := I3.call' (ch := fp) I6.os I6.base I6.hok I6.bare fun b hb => ⟨(f3 b hb).1.2.2.2.1, (f3 b hb).1.2.1, (f3 b hb).1.2.2.2.2.1, (f3 b hb).1.2.2.2.2.2⟩
      have nC : H5 ce.locals = none := I6.free
      obtain ⟨m, hn, _⟩ := I6.loc
      have hn : s6.heap.Ns ce.locals m := hn
      rw [cL] at hn nC
      exact hRR D s3.heap.objs.size s6 m H5 I7 qq hn (I3.fpOk (Nat.le_refl _) nC)
    · refine thnF (T.item (X.blk s3 H3 scope ce fp) rfl rfl rfl hc i [] s5 _ H5 (fun _ _ => False) I5 (stat I5 n5) st5 go) fun r s6 ⟨u, hr, h6⟩ => ?_
      subst hr
      refine thnF h6 fun _ s7 ⟨x, H7, I7, r7, y7, st7, n7⟩ => ?_
      refine thnF (pg.run _ s7 _ H7 x u _ (I7.pinned (stat I7 n7) (T.obj _ _ st7)) r7 (step x H7 y7)) fun _ s8 ⟨σ8, H8, I8, hw8, q8⟩ => ?_
      refine thnF (pt.run _ s8 σ8 H8 _ I8 q8) fun b s9 ⟨H9, I9, q9⟩ => ?_
      have fin : ∀ {σ9 : L2.St} {s' : Shared} {H' : Hp}, L2.Inv (X.blk s3 H3 scope ce fp) ([] ++ pinsAt fp s7.heap) σ9 H' s' → σ9.length = σ8.length → (∀ (j : Nat) v, (wipe σ (own.map (·.2)))[j]? = some (some v) → σ9[j]? = some (some v)) → Nx H' → ∃ m, m < n ∧ At m s' := fun {σ9 s' H'} I' hl9 hk nx => by
        obtain ⟨m', hm, w'⟩ := hNx H' nx
        have pin' : ∀ b ∈ fp, ∀ o, s7.heap.get? b = some o → s'.heap.get? b = some o ∧ H' b = none := fun b hb o e =>
          let z := I'.pin (b, o) (List.mem_append_right _ (List.mem_append_right _ (mem_pinsAt hb e)))
          ⟨z.1, z.2.1⟩
        refine ⟨m', hm, i + 1, H', (I'.unpinned (pins := [])).weak (by rw [hl9, ← hw8, wipe_length]) hk, T.keep _ _ _ st7 fun b hb o e => (pin' b hb o e).1, fun b hb => ?_, w'⟩
        obtain ⟨o, e, _⟩ := T.obj _ _ st7 b hb
        exact (pin' b hb o e).2
      have known : ∀ (j : Nat) v, (wipe σ (own.map (·.2)))[j]? = some (some v) → σ8[j]? = some (some v) ∧ (wipe σ8 vs1)[j]? = some (some v) := fun j v e => by
        rw [← hw8] at e
        obtain ⟨e1, e2⟩ := wipe_some e
        exact ⟨e1, by rw [wipe_out fun z => e2 (hv j z)]; exact e1⟩
      cases b with
      | false =>
        rw [if_neg Bool.false_ne_true] at q9
        rw [if_neg Bool.false_ne_true]
        exact fin I9 rfl (fun j v e => (known j v e).1) q9
      | true =>
        rw [if_pos rfl] at q9
        rw [if_pos rfl]
        refine hlm _ _ _ _ _ _ (pl.run _ s9 σ8 H9 D Nx _ I9 q9) fun s10 ⟨σ10, H10, I10, l10, k10, nx⟩ => ?_
        exact fin I10 l10 (fun j v e => k10 j v (known j v e).2) nx
  exact hno.start _ _ _ _ _ loop (T.self X.A 0 _ _ _ st4 loop)
end
end G3

/-! set comprehensions: what a turn does at its end; nodes of one for and of two -/
namespace G3
open PySem PySem.Spec PyProof.Rows L2

/-- acc.add(elt) -/
def lfSet (M : Model) (A : Around) (elt : Expr) : Leaf := fun ce acc P E s => wpAny M A (eval elt ce) (fun x s₄ => wpAny M A (call (.builtin "set.add") [acc, x]) (fun _ s₅ => P s₅) E s₄) E s
theorem lfSet_mono {M : Model} {A : Around} {elt : Expr} (ce : Env) (acc : Value) (P P' : Shared → Prop) (E : Value → Shared → Prop) (s : Shared) (h : lfSet M A elt ce acc P E s) (hP : ∀ s, P s → P' s) : lfSet M A elt ce acc P' E s :=
  wpAny_mono h (fun _ _ h1 => wpAny_mono h1 (fun _ s q => hP s q) fun _ _ z => z) fun _ _ z => z
def SetMO (P : Program) (w : World) (a : Addr) (S : Key → Bool) (n : Nat) : HO := .ext fun h => SetM P w h a S n
theorem setMO_new {w : World} {P : Program} {H : Hp} {h : Heap} {a : Addr} {S : Key → Bool} {n : Nat} (R : SetM P w h a S n) : ObjOk P w H h a (SetMO P w a S n) := by
  have ⟨o, _, _, _, ho, _⟩ := R
  exact ⟨R, ⟨o, ho⟩, fun h1 h2 p k => SetM.at p k⟩
def set0 (w : World) : Obj := { cls := .type "set", dict := none, data := .set #[] 0 (.fresh 0 0 (!w.params.followText "set-order")) }
theorem setM_at0 {P : Program} {w : World} {h : Heap} {a : Addr} (e : h.get? a = some (set0 w)) : SetM P w h a (fun _ => false) 0 :=
  ⟨_, #[], 0, _, e, ⟨rfl, rfl, rfl⟩, rfl, (fun e he => by simp at he), (by simp), (fun k => by simp), (by decide), (by rfl), rfl, List.Pairwise.nil, by
    show _ ∨ (!w.params.followText "set-order") = true
    cases w.params.followText "set-order"
    · exact .inr rfl
    · exact .inl rfl⟩
section
variable {X : Cx}
theorem setMO_get {pins : List (Addr × Obj)} {σ : L2.St} {H : Hp} {s : Shared} {a : Addr} {S : Key → Bool} {n : Nat} (I : L2.Inv X pins σ H s) (ha : H a = some (SetMO X.prog X.w a S n)) : SetM X.prog X.w s.heap a S n := (I.hok a _ ha).1
/-- .. in the tracked heap -/
def tlSet (P : Program) (w : World) (te : TE) : TL := fun D σ H Nx => te σ H fun y H4 => ∃ (k : Key) (S : Key → Bool) (n : Nat), y = kV k ∧ H4 D = some (SetMO P w D S n) ∧ n + 1 < scanBound ∧
  Nx (upd H4 D (SetMO P w D (fun j => S j || decide (j = k)) (if S k = true then n else n + 1)))
theorem plf_set {elt : Expr} {te : TE} {vs1 : List Nat} (he : PE X elt te) (hx : X.xe = fun _ _ => False) : PLf X vs1 (lfSet (model X.prog X.w) X.A elt) (tlSet X.prog X.w te) := by
  refine ⟨fun pins s σ H D Nx E I h => ?_⟩
  have q := he.run pins s σ H _ I h
  rw [hx] at q
  refine thnF q fun v s4 ⟨y, H4, I4, r4, k, S, n, ey, hD, hz, nx⟩ => ?_
  subst ey
  refine setM_add (setMO_get I4 hD) (kV_is (P := X.prog) (w := X.w) r4) hz fun h' sb new => ?_
  have he : ∃ u, h'.get? D = some u := by
    have ⟨o, _, _, _, ho, _⟩ := new
    exact ⟨o, ho⟩
  exact ⟨σ, _, I4.write (e := D) (t' := s4.toks + 1) (by rw [hD]; trivial) (.inl rfl) (fun b u hb hu => (sb.2 b hb).trans hu) he (setMO_new new), rfl, fun j v e => (wipe_some e).1, nx⟩
end
section
variable {prog : Program} {w : World} {A : Around} {elt tg iter : Expr} {ifs : List Expr} {scope : Scope} {pos : Pos}
theorem node_set : NodeOk (model prog w) A (.SetComp elt [⟨tg, iter, ifs, 0⟩] scope pos) tg iter ifs (lfSet (model prog w) A elt) :=
  ⟨fun R it acc ce I turn n s h => PpSet.compLoopS_any I (fun n s hI => turn n s hI) n h, fun R it acc ce s h0 h => PpSet.codeAny_compStart_set h0 h⟩
end
end G3

/-! sorted({elt for target in iter if ..}), elt an int or a text -/
namespace G3
open PySem PySem.Spec PyProof.Rows L2

theorem rp_keys {K : PySem.W.Frag} {w : Wd} : ∀ ks : List Key, RpAll K w (ks.map keyD) (ks.map kV)
  | [] => .nil
  | .inl i :: ks => .cons (.int i) (rp_keys ks)
  | .inr x :: ks => .cons (.str x) (rp_keys ks)
theorem key_relV {k : Key} {v : Value} (h : keyIs k v = true) : RelV (kV k) v := by
  rcases keyIs_shape h with ⟨i, t, rfl, rfl⟩ | ⟨x, t, rfl, rfl⟩
  · exact ⟨t, rfl⟩
  · exact ⟨t, rfl⟩
theorem vals_keys : ∀ {vs : List Value} {ks : List Key}, PySem.W.EachIs (fun v k => keyIs k v = true) vs ks → Vals (ks.map kV) vs
  | _, _, .nil => .nil
  | _, _, .cons a b => .cons (key_relV a) (vals_keys b)
/-- sorted(set) -/
def rSortedM (P : Program) (w : World) : List V → Hp → VK → Prop := fun vs H Q => ∃ (a : Addr) (S : Key → Bool) (n : Nat), vs = [V.ref a] ∧ H a = some (SetMO P w a S n) ∧
  ((∀ k, S k = true → ∃ i, k = Sum.inl i) ∨ (∀ k, S k = true → ∃ x, k = Sum.inr x)) ∧
  ∀ (ks : List Key) (p : Addr), ks.Nodup → (∀ k, k ∈ ks ↔ S k = true) → ks.Pairwise (fun k j => PySem.W.dataLe false keyP k j = true) → H p = none → Q (.ref p) (upd H p (.lst (ks.map kV)))
section
variable {X : Cx}
theorem cr_sortedM (hc : X.calm = true) (hu : X.A.units + 64 < cLine) : CallR X (.builtin "sorted") (rSortedM X.prog X.w) := by
  intro pins s σ H vs us Q I r h
  obtain ⟨a, S, n, rfl, ha, hone, q⟩ := h
  have R := setMO_get I ha
  have few : n ≤ sizeLine := by
    obtain ⟨_, _, _, _, _, _, _, _, _, _, hb, _, hn, _⟩ := R
    exact fits_of_scanBound (by omega)
  rw [Vals.ref1 r]
  refine sorted_setM R (I.ok.hd hc) hu hone fun s' p out c ks k g o hp hg he hnd hm hl hw => ?_
  have hlen : (ks.map kV).length ≤ sizeLine := by rw [List.length_map, hl]; exact few
  have hn : H p = none := I.hok.fresh hp
  have J : L2.Inv X pins σ (upd H p (.lst (ks.map kV))) { s with heap := s'.heap, gens := s'.gens, drawn := s'.drawn, toks := s'.toks } :=
    I.call (ch := []) (Un.laid k hp hn) (I.hok.laid k hp ⟨hlen, out, c, vals_keys he, hg⟩) (by rw [g]; exact I.bare) (fun _ z => nomatch z)
  have e : s' = { s with heap := s'.heap, gens := s'.gens, drawn := s'.drawn, toks := s'.toks } := by
    cases s'
    cases s
    cases o
    rfl
  rw [e]
  exact ⟨.ref p, _, J, rfl, q ks p hnd hm hw hn⟩
variable {elt tg iter : Expr} {ifs : List Expr} {scope : Scope} {pos : Pos}
theorem mkSet_ok {E : Value → Shared → Prop} (s : Shared) (Q : Value → Shared → Prop) (h : Q (.ref s.heap.objs.size) { s with heap := s.heap.push (set0 X.w) }) : wpAny (model X.prog X.w) X.A (newSet (.type "set")) Q E s := PpSet.newSet_ok h
theorem pe_setM {own : List (Str × Nat)} {wi : TI} {g : TG} {tt : TT} {te : TE} (hc : X.calm = true) (hN : X.N.Nodup) (hi : PI X tg iter wi) (ok : BlkOk X.N X.env.scope scope own)
    (hg : ∀ (s : Shared) (H : Hp) (C : Addr) (cl : List (Str × Addr)) (fp : List Addr), PG (X.blk s H scope (compEnvC scope cl C X.env) fp) tg g) (ht : ∀ (s : Shared) (H : Hp) (C : Addr) (cl : List (Str × Addr)) (fp : List Addr), PTs (X.blk s H scope (compEnvC scope cl C X.env) fp) ifs tt)
    (he : ∀ (s : Shared) (H : Hp) (C : Addr) (cl : List (Str × Addr)) (fp : List Addr), PE (X.blk s H scope (compEnvC scope cl C X.env) fp) elt te) (hs : ∀ x, foldedSetIterable iter X.env x = pure x := by intro _; rfl) :
    PE X (.SetComp elt [⟨tg, iter, ifs, 0⟩] scope pos) (tGa (fun D => SetMO X.prog X.w D (fun _ => false) 0) wi g tt (tlSet X.prog X.w te) (own.map (·.2))) := by
  refine ⟨fun pins s σ H Q I h => ?_⟩
  rw [PpSet.eval_SetComp]
  refine gather (vs1 := []) (o0 := set0 X.w) (u0 := fun D => SetMO X.prog X.w D (fun _ => false) 0) mkSet_ok rfl (fun H h D e => setMO_new (setM_at0 e)) node_set lfSet_mono hc hN I hi ok (fun _ z => nomatch z) hg ht (fun s H C cl fp => plf_set (he s H C cl fp) rfl) rfl hs h fun D C s' m H' I' q hn f => ⟨m, hn, fun h'' sb => ?_⟩
  obtain ⟨f0, f1, f2, f3, f4, f5⟩ := f
  exact ⟨.ref D, H', I'.turned (t' := s'.toks) (fun b o hb e => (sb.2 b hb).trans e) f0 f1 f3 f4 f5, rfl, q⟩
end

/-! ### on trees -/
@[simp] def wSc (vs : List Nat) (gg : GG) (gt : GT) (ge : GE) (ρ : Sl) : List Dv → List Key → Mh → (List Key → Mh → Prop) → Prop
  | [], acc, h, Q => Q acc h
  | d :: ds, acc, h, Q => gg d (wipD ρ vs) h fun ρ2 h2 => gt ρ2 h2 fun b h3 => if b = true then ge ρ2 h3 fun y h4 => ∃ k, y = keyD k ∧ acc.length + 1 < scanBound ∧ wSc vs gg gt ge ρ ds (k :: acc) h4 Q else wSc vs gg gt ge ρ ds acc h3 Q
/-- all of one sort -/
def Alike1 (ks : List Key) : Prop := (∀ k, k ∈ ks → ∃ i, k = Sum.inl i) ∨ ∀ k, k ∈ ks → ∃ x, k = Sum.inr x
/-- the members in their order -/
def sortedK (acc : List Key) (h : Mh) (Q : Kd) : Prop := Alike1 acc ∧ ∀ ks : List Key, ks.Nodup → (∀ k, k ∈ ks ↔ k ∈ acc) → ks.Pairwise (fun k j => PySem.W.dataLe false keyP k j = true) → Q (.lst (ks.map keyD)) h
@[simp] def gSortSc (vs : List Nat) (gi : GI) (gg : GG) (gt : GT) (ge : GE) : GE := fun ρ h Q => gi ρ h fun ds h1 => wSc vs gg gt ge ρ ds [] h1 fun acc h2 => sortedK acc h2 Q
structure GathS (X : Cx) (w1 : Wd) (D : Addr) (w : Wd) (acc : List Key) : Prop where
  at_ : ∃ S n, w.H D = some (SetMO X.prog X.w D S n) ∧ (∀ k, S k = true ↔ k ∈ acc) ∧ n ≤ acc.length
  un : w.G D = none
  rel : Rel X.K w
  ext : Ext w1 w
section
variable {X : Cx} {w1 : Wd} {D : Addr}
/-- the new thing at D, whatever it becomes -/
theorem untold_put {w : Wd} {u : HO} (nD : w1.H D = none) (r1 : Rel X.K w1) (un : w.G D = none) (r : Rel X.K w) (x : (Ext w1 w ∧ ∀ ps, w.H D ≠ some (.tbl ps)) ∨ w = w1) (hu : ∀ ps, u ≠ .tbl ps := by intro _ z; cases z) : Rel X.K ⟨w.h, w.G, upd w.H D u⟩ ∧ Ext w1 ⟨w.h, w.G, upd w.H D u⟩ ∧ Ex0 w ⟨w.h, w.G, upd w.H D u⟩ := by
  have np : ∀ ps, w.H D ≠ some (.tbl ps) := x.elim (fun z => z.2) fun e ps z => by
    rw [e, nD] at z; cases z
  have x : Ext w1 w := x.elim (fun z => z.1) fun e => by rw [e]; exact Ext.refl w1
  have ne : ∀ p u, w1.H p = some u → p ≠ D := fun p u h z => by rw [z, nD] at h; cases h
  have lkD : ∀ p m, w.h p = some m → p ≠ D := fun p m e z => by
    have := r.hG un
    rw [z, this] at e; cases e
  refine ⟨r.junkPut un np _ hu, ⟨x.fz, fun p y h1 h2 nt => ?_, fun p m h1 l => ?_⟩, fun p y h1 h2 => ⟨h2, h1⟩, fun p m h1 _ => ⟨h1, rfl, upd_ne (lkD p m h1)⟩⟩
  · obtain ⟨z1, z2⟩ := x.junk p y h1 h2 nt
    exact ⟨z1, by show upd w.H D _ p = _; rw [upd_ne (ne p y h2)]; exact z2⟩
  · obtain ⟨z1, z2, z3⟩ := x.lk p m h1 l
    exact ⟨z1, z2, (upd_ne (lkD p m z1)).trans z3⟩
theorem GathS.go {w w' : Wd} {acc : List Key} (g : GathS X w1 D w acc) (r : Rel X.K w') (e : Ext w w') : GathS X w1 D w' acc := by
  obtain ⟨S, n, h1, h2, h3⟩ := g.at_
  obtain ⟨a, b⟩ := e.junk D _ g.un h1 (fun _ z => by cases z)
  exact ⟨⟨S, n, b, h2, h3⟩, a, r, g.ext.trans e⟩
theorem lo_sc {vs : List Nat} {gi : GI} {gg : GG} {gt : GT} {ge : GE} {σ : L2.St} {H : Hp} {Q : VK}
    (h : lo X.K (gSortSc vs gi gg gt ge) σ H Q) : tCB (rSortedM X.prog X.w) (tCons (tGa (fun D => SetMO X.prog X.w D (fun _ => false) 0) (loI X.K gi) (loG X.K vs gg) (loT X.K gt) (tlSet X.prog X.w (lo X.K ge)) vs) tNil) σ H Q := by
  obtain ⟨ρ, w, Q3, e, gd, q, out⟩ := h
  subst e
  refine ⟨ρ, w, _, rfl, gd, q, fun ds w1 J q1 r1 e1 ok D nD => ?_⟩
  have gD := (r1.hnone nD).1
  let Inv' : Nat → Hp → Prop := fun i H' => ∃ w' acc, w'.H = H' ∧ GathS X w1 D w' acc ∧ wSc vs gg gt ge ρ (ds.drop i) acc w'.h (fun acc h2 => sortedK acc h2 Q3)
  obtain ⟨r0, x0, _⟩ := untold_put (u := SetMO X.prog X.w D (fun _ => false) 0) nD r1 gD r1 (.inr rfl)
  refine ⟨fun i n H' => n = ds.length - i ∧ i ≤ ds.length ∧ Inv' i H', ⟨ds.length, rfl, Nat.zero_le _, ⟨w1.h, w1.G, upd w1.H D (SetMO X.prog X.w D (fun _ => false) 0)⟩, [], rfl, ⟨⟨_, 0, upd_same, fun k => by simp, Nat.le_refl _⟩, gD, r0, x0⟩, q1⟩, fun i n H' ⟨hn, hl, w', acc, eH, g', q'⟩ => ?_⟩
  subst eH hn
  by_cases hi : i < ds.length
  · rw [List.drop_eq_getElem_cons hi] at q'
    refine .inr ⟨ok.go i w' g'.ext.w g'.rel hi, Inv' (i + 1), fun H' iv => ⟨ds.length - (i + 1), by omega, rfl, hi, iv⟩, fun x H'' hy => ?_⟩
    obtain ⟨w2, eH, hh, r2, e2, p2⟩ := ok.yld i w' x H'' g'.ext.w g'.rel hy ds[i] (List.getElem?_eq_getElem hi)
    subst eH
    have g2 := g'.go r2 e2
    refine ⟨ds[i], wipD ρ vs, w2, _, rfl, (((gd.ext r1 e1).ext g'.rel g'.ext).ext r2 e2).wipe vs, p2, by rw [hh]; exact q', fun ρ3 w3 σ3 q3 gd3 e3 z3 => ⟨z3.trans (wipe_wipe σ vs vs fun _ z => z), ρ3, w3, _, rfl, gd3, q3, fun b w4 q4 r4 e4 => ?_⟩⟩
    have g4 := (g2.go gd3.rel e3).go r4 e4
    cases b with
    | false =>
      dsimp only at q4 ⊢
      rw [if_neg Bool.false_ne_true] at q4 ⊢
      exact ⟨w4, acc, rfl, g4, q4⟩
    | true =>
      dsimp only at q4 ⊢
      rw [if_pos rfl] at q4 ⊢
      refine ⟨ρ3, w4, _, rfl, gd3.ext r4 e4, q4, fun y w5 v5 ⟨k, ey, hz, q5⟩ r5 e5 p5 => ?_⟩
      subst ey
      have g5 := g4.go r5 e5
      obtain ⟨S, m, hS, hm, hle⟩ := g5.at_
      have ev : v5 = kV k := by
        cases k with
        | inl i => cases p5; rfl
        | inr z => cases p5; rfl
      obtain ⟨r6, x6, _⟩ := untold_put (u := SetMO X.prog X.w D (fun j => S j || decide (j = k)) (if S k = true then m else m + 1)) nD r1 g5.un r5 (.inl ⟨g5.ext, fun _ z => by rw [hS] at z; cases z⟩)
      refine ⟨k, S, m, ev, hS, by omega, ⟨w5.h, w5.G, upd w5.H D (SetMO X.prog X.w D (fun j => S j || decide (j = k)) (if S k = true then m else m + 1))⟩, k :: acc, rfl, ⟨⟨_, _, upd_same, fun j => ?_, ?_⟩, g5.un, r6, x6⟩, q5⟩
      · rw [Bool.or_eq_true, decide_eq_true_eq, hm j, List.mem_cons]
        exact Or.comm
      · rw [List.length_cons]
        split <;> omega
  · have e : i = ds.length := by omega
    subst e
    rw [List.drop_length] at q'
    obtain ⟨S, m, hS, hm, hle⟩ := g'.at_
    obtain ⟨hone, qq⟩ := q'
    refine .inl ⟨ok.stop w' g'.ext.w g'.rel, D, S, m, rfl, hS, hone.imp (fun z k hk => z k ((hm k).1 hk)) (fun z k hk => z k ((hm k).1 hk)), fun ks p hnd hmem hw np => ?_⟩
    obtain ⟨r2, e2, p2⟩ := new_lst (p := p) g'.rel (rp_keys ks) np
    exact out.go r2 ((e1.trans g'.ext).trans e2) p2 (qq ks hnd (fun k => (hmem k).trans (hm k)) hw)
variable {elt tg iter : Expr} {ifs : List Expr} {scope : Scope} {pos pos2 p : Pos} {gi : GI} {gg : GG} {gt : GT} {ge : GE}
theorem e_sortSc (own : List (Str × Nat)) (hc : X.calm = true) (hu : X.A.units + 64 < cLine) (hgl : Gl X "sorted") (hm : X.mg "sorted" = none) (hN : X.N.Nodup) (hi : I3 X tg iter gi) (ok : BlkOk X.N X.env.scope scope own)
    (hg : ∀ (s : Shared) (H : Hp) (C : Addr) (cl : List (Str × Addr)) (fp : List Addr), G3t (X.blk s H scope (compEnvC scope cl C X.env) fp) tg (own.map (·.2)) gg) (ht : ∀ (s : Shared) (H : Hp) (C : Addr) (cl : List (Str × Addr)) (fp : List Addr), T3s (X.blk s H scope (compEnvC scope cl C X.env) fp) ifs gt)
    (he : ∀ (s : Shared) (H : Hp) (C : Addr) (cl : List (Str × Addr)) (fp : List Addr), E3 (X.blk s H scope (compEnvC scope cl C X.env) fp) elt ge) (hs : ∀ x, foldedSetIterable iter X.env x = pure x := by intro _; rfl)
    (hst : starEach [.SetComp elt [⟨tg, iter, ifs, 0⟩] scope pos] X.env = (false, eval (.SetComp elt [⟨tg, iter, ifs, 0⟩] scope pos) X.env) :: starEach [] X.env := by rfl) :
    E3 X (.Call (.Name "sorted" p) [.SetComp elt [⟨tg, iter, ifs, 0⟩] scope pos] [] pos2) (gSortSc (own.map (·.2)) gi gg gt ge) :=
  PEimp (pe_callB (cr_sortedM hc hu) hgl hm (by decide +kernel) (pa_cons (pe_setM (g := loG X.K (List.map (fun x : Str × Nat => x.2) own) gg) (tt := loT X.K gt) (te := lo X.K ge) hc hN hi ok hg ht he hs) pa_nil hst) (by decide) (by decide) hst (by rfl)) fun _ _ _ h => lo_sc h
end
end G3

/-! set comprehensions of two fors -/
namespace G3
open PySem PySem.Spec PyProof.Rows L2
section
variable {prog : Program} {w : World} {A : Around} {elt t0 i0 t1 i1 : Expr} {ifs0 ifs1 : List Expr} {scope : Scope} {pos : Pos}
theorem turnS2_out (it acc : Value) (env : Env) :
    compTurn (.SetComp elt [⟨t0, i0, ifs0, 0⟩, ⟨t1, i1, ifs1, 0⟩] scope pos) 0 it acc env = (do
      standAt i0.pos
      match ← pyNext it with
      | none => pure (.done .next)
      | some v =>
        letOwnedTupleGo t0 it v
        assign t0 env v
        let mut ok := true
        for c in ifs0 do
          if ok then ok ← isTrue c env (eval c env)
        if ok then
          let x ← eval i1 env
          standAt i1.pos
          let x ← foldedSetIterable i1 env x
          let _ ← runOwn (.compStart (.SetComp elt [⟨t0, i0, ifs0, 0⟩, ⟨t1, i1, ifs1, 0⟩] scope pos) 1 (← holding [x] (pyIter x)) acc env) env
        again (.compLoop (.SetComp elt [⟨t0, i0, ifs0, 0⟩, ⟨t1, i1, ifs1, 0⟩] scope pos) 0 it acc env)) := by rfl
theorem turnS2_in (it acc : Value) (env : Env) :
    compTurn (.SetComp elt [⟨t0, i0, ifs0, 0⟩, ⟨t1, i1, ifs1, 0⟩] scope pos) 1 it acc env = (do
      standAt i1.pos
      match ← pyNext it with
      | none => pure (.done .next)
      | some v =>
        letOwnedTupleGo t1 it v
        assign t1 env v
        let mut ok := true
        for c in ifs1 do
          if ok then ok ← isTrue c env (eval c env)
        if ok then
          (do let v ← eval elt env; standAt elt.pos; let _ ← call (.builtin "set.add") [acc, v])
        again (.compLoop (.SetComp elt [⟨t0, i0, ifs0, 0⟩, ⟨t1, i1, ifs1, 0⟩] scope pos) 1 it acc env)) := by rfl
/-- the inner walk, from its thing on -/
def lfIn (M : Model) (A : Around) (node i1 : Expr) : Leaf := fun ce acc P E s => wpAny M A (eval i1 ce) (fun x s₄ => wpAny M A (pyIter x) (fun it1 s₅ => codeAny M A (.compStart node 1 it1 acc ce) (fun r s' => match r with
  | .ok _ => P s'
  | .error _ => False) s₅) E s₄) E s
theorem lfIn_mono {M : Model} {A : Around} {node i1 : Expr} (ce : Env) (acc : Value) (P P' : Shared → Prop) (E : Value → Shared → Prop) (s : Shared) (h : lfIn M A node i1 ce acc P E s) (hP : ∀ s, P s → P' s) : lfIn M A node i1 ce acc P' E s :=
  wpAny_mono h (fun _ _ h1 => wpAny_mono h1 (fun _ _ h2 => codeAny_mono h2 fun r s q => by
    cases r with
    | ok f => exact hP s q
    | error e => exact q) fun _ _ z => z) fun _ _ z => z
theorem node_set2 (hs1 : ∀ env x, foldedSetIterable i1 env x = pure x) : NodeOk (model prog w) A (.SetComp elt [⟨t0, i0, ifs0, 0⟩, ⟨t1, i1, ifs1, 0⟩] scope pos) t0 i0 ifs0 (lfIn (model prog w) A (.SetComp elt [⟨t0, i0, ifs0, 0⟩, ⟨t1, i1, ifs1, 0⟩] scope pos) i1) := by
  refine ⟨fun R it acc ce I turn n s h => codeAny_loop rfl I (fun n s hI => ?_) n h, fun R it acc ce s h0 h => PpSet.codeAny_compStart_set h0 h⟩
  show wpAny _ A ((compTurn (.SetComp elt [⟨t0, i0, ifs0, 0⟩, ⟨t1, i1, ifs1, 0⟩] scope pos) 0 it acc ce).onRaise (fun x => do noteFrame x ce; theTreesLotGoes x)) _ _ s
  refine wpAny_noted ?_
  rw [turnS2_out]
  refine wpAny_bind (wpAny_standAt (wpAny_bind (wpAny_mono (turn n s hI) (fun r s₁ h₁ => ?_) fun _ _ z => z)))
  cases r with
  | none => exact wpAny_pure h₁
  | some v =>
    refine wpAny_bind (wpAny_mono h₁ (fun _ s₁' h₂ => wpAny_bind (wpAny_mono h₂ (fun _ s₂ h₃ => wpAny_bind (wpAny_mono h₃ (fun ok s₃ h₄ => ?_) fun _ _ z => z)) fun _ _ z => z)) fun _ _ z => z)
    cases ok with
    | false => exact wpAny_pure ⟨rfl, h₄⟩
    | true =>
      refine wpAny_bind (wpAny_mono h₄ (fun x s₄ h₅ => wpAny_bind (wpAny_standAt (wpAny_bind (wpAny_of_eq (hs1 ce x) (wpAny_bind (wpAny_holding (wpAny_mono h₅ (fun it1 s₅ h₆ => wpAny_bind (wpAny_runOwn ?_)) fun _ _ z => z))))))) fun _ _ z => z)
      rw [Around.mark_none]
      refine codeAny_mono h₆ fun r s' hr => ?_
      cases r with
      | ok f =>
        first
          | exact wpAny_pure ⟨rfl, hr⟩
          | exact wpAny_bind (wpAny_pure (wpAny_pure ⟨rfl, hr⟩))
      | error e => exact hr.elim
theorem node_in (R : Result → Shared → Prop) (it acc : Value) (ce : Env) (I : Nat → Shared → Prop) (turn : ∀ n s, I n s → TurnAt (model prog w) A R t1 ifs1 (lfSet (model prog w) A elt) it acc ce I n s) (n : Nat) (s : Shared) (h : I n s) :
    codeAny (model prog w) A (.compLoop (.SetComp elt [⟨t0, i0, ifs0, 0⟩, ⟨t1, i1, ifs1, 0⟩] scope pos) 1 it acc ce) R s := by
  refine codeAny_loop rfl I (fun n s hI => ?_) n h
  show wpAny _ A ((compTurn (.SetComp elt [⟨t0, i0, ifs0, 0⟩, ⟨t1, i1, ifs1, 0⟩] scope pos) 1 it acc ce).onRaise (fun x => do noteFrame x ce; theTreesLotGoes x)) _ _ s
  refine wpAny_noted ?_
  rw [turnS2_in]
  refine wpAny_bind (wpAny_standAt (wpAny_bind (wpAny_mono (turn n s hI) (fun r s₁ h₁ => ?_) fun _ _ z => z)))
  cases r with
  | none => exact wpAny_pure h₁
  | some v =>
    refine wpAny_bind (wpAny_mono h₁ (fun _ s₁' h₂ => wpAny_bind (wpAny_mono h₂ (fun _ s₂ h₃ => wpAny_bind (wpAny_mono h₃ (fun ok s₃ h₄ => ?_) fun _ _ z => z)) fun _ _ z => z)) fun _ _ z => z)
    cases ok with
    | false => exact wpAny_pure ⟨rfl, h₄⟩
    | true => exact wpAny_bind (wpAny_bind (wpAny_mono h₄ (fun x s₄ h₅ => wpAny_bind (wpAny_standAt (wpAny_bind (wpAny_mono h₅ (fun _ s₅ h₆ => wpAny_pure (wpAny_pure ⟨rfl, h₆⟩)) fun _ _ z => z)))) fun _ _ z => z))
theorem start_in {R : Result → Shared → Prop} {it acc : Value} {env : Env} {s : Shared} (h0 : codeAny (model prog w) A (.compLoop (.SetComp elt [⟨t0, i0, ifs0, 0⟩, ⟨t1, i1, ifs1, 0⟩] scope pos) 1 it acc env) R s)
    (h : wpAny (model prog w) A (pyIter it) (fun it' s' => codeAny (model prog w) A (.compLoop (.SetComp elt [⟨t0, i0, ifs0, 0⟩, ⟨t1, i1, ifs1, 0⟩] scope pos) 1 it' acc env) R s') (notedBy (model prog w) A env fun x s' => R (.error x) s') s) :
    codeAny (model prog w) A (.compStart (.SetComp elt [⟨t0, i0, ifs0, 0⟩, ⟨t1, i1, ifs1, 0⟩] scope pos) 1 it acc env) R s := by
  refine codeAny_of_tree ?_
  show wpAny _ _ ((compStart (.SetComp elt [⟨t0, i0, ifs0, 0⟩, ⟨t1, i1, ifs1, 0⟩] scope pos) 1 it acc env).onRaise (fun x => do noteFrame x env; standAt theWindowsPlace)) _ _ s
  refine wpAny_notedAt ?_
  unfold compStart
  show wpAny _ _ (ask >>= _) _ _ s
  refine wpAny_bind (wpAny_askSetting (wpAny_ite ?_))
  split
  · first
      | exact wpAny_bind (wpAny_pure (wpAny_pure (And.intro rfl h0)))
      | exact wpAny_pure (And.intro rfl h0)
  · first
      | exact wpAny_bind (wpAny_rule (wpAny_bind (wpAny_standAt (wpAny_bind (wpAny_mono h (fun it' s' h' => wpAny_pure (And.intro rfl h')) fun _ _ x => x)))))
      | (refine wpAny_bind (wpAny_rule ?_); show wpAny _ _ (standAt i1.pos >>= _) _ _ s; exact wpAny_bind (wpAny_standAt (wpAny_bind (wpAny_mono h (fun it' s' h' => wpAny_pure (And.intro rfl h')) fun _ _ x => x))))
end
/-- the inner walk in the tracked heap -/
def tlIn (wi1 : TI) (g1 : TG) (tt1 : TT) (tl : TL) (vs1 : List Nat) : TL := fun D σ H Nx => wi1 σ H fun J1 H4 => ∃ W1 : Nat → Nat → Hp → Prop, (∃ m, W1 0 m H4) ∧ ∀ j k H, W1 j k H →
  (J1.stop j H ∧ Nx H) ∨ (J1.go j H ∧ ∃ Nx1 : Hp → Prop, (∀ H', Nx1 H' → ∃ k', k' < k ∧ W1 (j + 1) k' H') ∧ ∀ x H', J1.yld j H x H' → g1 x (wipe σ vs1) H' fun σ3 H5 => wipe σ3 vs1 = wipe σ vs1 ∧ tt1 σ3 H5 fun b H6 => if b = true then tl D σ3 H6 Nx1 else Nx1 H6)
section
variable {X : Cx} {elt t0 i0 t1 i1 : Expr} {ifs0 ifs1 : List Expr} {scope : Scope} {pos : Pos}
theorem plf_in {vs1 : List Nat} {wi1 : TI} {g1 : TG} {tt1 : TT} {te : TE} (hx : X.xe = fun _ _ => False) (hc : X.calm = true) (hi : PI X t1 i1 wi1) (hg : PG X t1 g1) (ht : PTs X ifs1 tt1) (he : PE X elt te) :
    PLf X vs1 (lfIn (model X.prog X.w) X.A (.SetComp elt [⟨t0, i0, ifs0, 0⟩, ⟨t1, i1, ifs1, 0⟩] scope pos) i1) (tlIn wi1 g1 tt1 (tlSet X.prog X.w te) vs1) := by
  have pl := plf_set (vs1 := []) he hx
  refine ⟨fun pins s σ H D Nx E I h => ?_⟩
  have q := hi.run pins s σ H _ I h
  rw [hx] at q
  refine thnF q fun xv s1 hx1 => thnF hx1 fun itv s2 ⟨it, fp, tn, J, H2, e, I2, T, st2, f2, W1, ⟨m0, w0⟩, turn⟩ => ?_
  subst e
  have stat : ∀ {H' : Hp}, (∀ b ∈ fp, H' b = none) → ∀ b ∈ fp, FpOk X pins H' b := fun hn b hb => ⟨hn b hb, (f2 b hb).2⟩
  let At : Nat → Shared → Prop := fun k s' => ∃ j H', L2.Inv X pins (wipe σ vs1) H' s' ∧ tn j s'.heap ∧ (∀ b ∈ fp, H' b = none) ∧ W1 j k H'
  have loop : codeAny (model X.prog X.w) X.A (.compLoop (.SetComp elt [⟨t0, i0, ifs0, 0⟩, ⟨t1, i1, ifs1, 0⟩] scope pos) 1 (.ref it) (.ref D) X.env) (fun r s' => match r with
      | .ok _ => ∃ σ' H', L2.Inv X pins σ' H' s' ∧ σ'.length = σ.length ∧ (∀ (j : Nat) v, (wipe σ vs1)[j]? = some (some v) → σ'[j]? = some (some v)) ∧ Nx H'
      | .error _ => False) s2 := by
    refine node_in _ _ _ _ At (fun k s5 ⟨j, H5, I5, st5, n5, w5⟩ => ?_) m0 s2 ⟨0, H2, I2.weak (wipe_length _ _) (fun j v e => (wipe_some e).1), st2, fun b hb => (f2 b hb).1, w0⟩
    unfold TurnAt
    rcases turn j k H5 w5 with ⟨stop, nx⟩ | ⟨go, Nx1, hNx, step⟩
    · refine thnF (T.done X rfl rfl rfl hc j pins s5 _ H5 (fun _ _ => False) I5 (stat n5) st5 stop) fun r s6 ⟨hr, I6⟩ => ?_
      subst hr
      exact ⟨wipe σ vs1, H5, I6, wipe_length _ _, fun _ _ e => e, nx⟩
    · refine thnF (T.item X rfl rfl rfl hc j pins s5 _ H5 (fun _ _ => False) I5 (stat n5) st5 go) fun r s6 ⟨u, hr, h6⟩ => ?_
      subst hr
      refine thnF h6 fun _ s7 ⟨x, H7, I7, r7, y7, st7, n7⟩ => ?_
      have a1 := hg.run _ s7 _ H7 x u _ (I7.pinned (stat n7) (T.obj _ _ st7)) r7 (step x H7 y7)
      rw [hx] at a1
      refine thnF a1 fun _ s8 ⟨σ8, H8, I8, hw8, q8⟩ => ?_
      have a2 := ht.run _ s8 σ8 H8 _ I8 q8
      rw [hx] at a2
      refine thnF a2 fun b s9 ⟨H9, I9, q9⟩ => ?_
      have fin : ∀ {σ9 : L2.St} {s' : Shared} {H' : Hp}, L2.Inv X (pins ++ pinsAt fp s7.heap) σ9 H' s' → σ9.length = σ8.length → (∀ (i : Nat) v, (wipe σ8 [])[i]? = some (some v) → σ9[i]? = some (some v)) → Nx1 H' → ∃ m, m < k ∧ At m s' := fun {σ9 s' H'} I' l9 k9 nx => by
        obtain ⟨m', hm, w'⟩ := hNx H' nx
        have pin' : ∀ b ∈ fp, ∀ o, s7.heap.get? b = some o → s'.heap.get? b = some o ∧ H' b = none := fun b hb o e =>
          let z := I'.pin (b, o) (List.mem_append_right _ (List.mem_append_right _ (mem_pinsAt hb e)))
          ⟨z.1, z.2.1⟩
        refine ⟨m', hm, j + 1, H', I'.unpinned.weak (by rw [l9, ← hw8, wipe_length]) (fun i v e => k9 i v ?_), T.keep _ _ _ st7 fun b hb o e => (pin' b hb o e).1, fun b hb => ?_, w'⟩
        · rw [← hw8] at e
          exact (wipe_some e).1
        · obtain ⟨o, e, _⟩ := T.obj _ _ st7 b hb
          exact (pin' b hb o e).2
      cases b with
      | false =>
        rw [if_neg Bool.false_ne_true] at q9
        rw [if_neg Bool.false_ne_true]
        exact fin I9 rfl (fun _ _ e => e) q9
      | true =>
        rw [if_pos rfl] at q9
        rw [if_pos rfl]
        exact lfSet_mono _ _ _ _ _ _ (pl.run _ s9 σ8 H9 D Nx1 _ I9 q9) fun s10 ⟨σ10, H10, I10, l10, k10, nx⟩ => fin I10 l10 k10 nx
  exact start_in loop (T.self X.A 0 _ _ _ st2 loop)
end
end G3

/-! sorted of a set comprehension of two fors -/
namespace G3
open PySem PySem.Spec PyProof.Rows L2
@[simp] def wSc2 (vs vs1 : List Nat) (gg : GG) (gt : GT) (gi1 : GI) (gg1 : GG) (gt1 : GT) (ge : GE) (ρ : Sl) : List Dv → List Key → Mh → (List Key → Mh → Prop) → Prop
  | [], acc, h, Q => Q acc h
  | d :: ds, acc, h, Q => gg d (wipD ρ vs) h fun ρ2 h2 => gt ρ2 h2 fun b h3 =>
    if b = true then gi1 ρ2 h3 fun ds1 h4 => wSc vs1 gg1 gt1 ge ρ2 ds1 acc h4 fun acc1 h5 => wSc2 vs vs1 gg gt gi1 gg1 gt1 ge ρ ds acc1 h5 Q
    else wSc2 vs vs1 gg gt gi1 gg1 gt1 ge ρ ds acc h3 Q
@[simp] def gSortSc2 (vs vs1 : List Nat) (gi : GI) (gg : GG) (gt : GT) (gi1 : GI) (gg1 : GG) (gt1 : GT) (ge : GE) : GE := fun ρ h Q => gi ρ h fun ds h1 => wSc2 vs vs1 gg gt gi1 gg1 gt1 ge ρ ds [] h1 fun acc h2 => sortedK acc h2 Q
section
variable {X : Cx}
theorem GathS.add {w1 w : Wd} {D : Addr} {acc : List Key} {k : Key} {v : V} (nD : w1.H D = none) (r1 : Rel X.K w1) (g : GathS X w1 D w acc) (p : Rp X.K w (keyD k) v) (hz : acc.length + 1 < scanBound) :
    ∃ S m, v = kV k ∧ w.H D = some (SetMO X.prog X.w D S m) ∧ m + 1 < scanBound ∧ ∃ w', w'.H = upd w.H D (SetMO X.prog X.w D (fun j => S j || decide (j = k)) (if S k = true then m else m + 1)) ∧ w'.h = w.h ∧ GathS X w1 D w' (k :: acc) ∧ Ex0 w w' := by
  obtain ⟨S, m, hS, hm, hle⟩ := g.at_
  have ev : v = kV k := by
    cases k with
    | inl i => cases p; rfl
    | inr z => cases p; rfl
  obtain ⟨r6, x6, y6⟩ := untold_put (u := SetMO X.prog X.w D (fun j => S j || decide (j = k)) (if S k = true then m else m + 1)) nD r1 g.un g.rel (.inl ⟨g.ext, fun _ z => by rw [hS] at z; cases z⟩)
  refine ⟨S, m, ev, hS, by omega, ⟨w.h, w.G, upd w.H D (SetMO X.prog X.w D (fun j => S j || decide (j = k)) (if S k = true then m else m + 1))⟩, rfl, rfl, ⟨⟨_, _, upd_same, fun j => ?_, ?_⟩, g.un, r6, x6⟩, y6⟩
  · rw [Bool.or_eq_true, decide_eq_true_eq, hm j, List.mem_cons]
    exact Or.comm
  · rw [List.length_cons]
    split <;> omega
theorem lo_sc2 {vs vs1 : List Nat} {gi gi1 : GI} {gg gg1 : GG} {gt gt1 : GT} {ge : GE} {σ : L2.St} {H : Hp} {Q : VK}
    (h : lo X.K (gSortSc2 vs vs1 gi gg gt gi1 gg1 gt1 ge) σ H Q) : tCB (rSortedM X.prog X.w) (tCons (tGa (fun D => SetMO X.prog X.w D (fun _ => false) 0) (loI X.K gi) (loG X.K vs gg) (loT X.K gt) (tlIn (loI X.K gi1) (loG X.K vs1 gg1) (loT X.K gt1) (tlSet X.prog X.w (lo X.K ge)) vs1) vs) tNil) σ H Q := by
  obtain ⟨ρ, w, Q3, e, gd, q, out⟩ := h
  subst e
  refine ⟨ρ, w, _, rfl, gd, q, fun ds w1 J q1 r1 e1 ok D nD => ?_⟩
  have gD := (r1.hnone nD).1
  let Inv' : Nat → Hp → Prop := fun i H' => ∃ w' acc, w'.H = H' ∧ GathS X w1 D w' acc ∧ wSc2 vs vs1 gg gt gi1 gg1 gt1 ge ρ (ds.drop i) acc w'.h (fun acc h2 => sortedK acc h2 Q3)
  obtain ⟨r0, x0, _⟩ := untold_put (u := SetMO X.prog X.w D (fun _ => false) 0) nD r1 gD r1 (.inr rfl)
  refine ⟨fun i n H' => n = ds.length - i ∧ i ≤ ds.length ∧ Inv' i H', ⟨ds.length, rfl, Nat.zero_le _, ⟨w1.h, w1.G, upd w1.H D (SetMO X.prog X.w D (fun _ => false) 0)⟩, [], rfl, ⟨⟨_, 0, upd_same, fun k => by simp, Nat.le_refl _⟩, gD, r0, x0⟩, q1⟩, fun i n H' ⟨hn, hl, w', acc, eH, g', q'⟩ => ?_⟩
  subst eH hn
  by_cases hi : i < ds.length
  · rw [List.drop_eq_getElem_cons hi] at q'
    refine .inr ⟨ok.go i w' g'.ext.w g'.rel hi, Inv' (i + 1), fun H' iv => ⟨ds.length - (i + 1), by omega, rfl, hi, iv⟩, fun x H'' hy => ?_⟩
    obtain ⟨w2, eH, hh, r2, e2, p2⟩ := ok.yld i w' x H'' g'.ext.w g'.rel hy ds[i] (List.getElem?_eq_getElem hi)
    subst eH
    have g2 := g'.go r2 e2
    refine ⟨ds[i], wipD ρ vs, w2, _, rfl, (((gd.ext r1 e1).ext g'.rel g'.ext).ext r2 e2).wipe vs, p2, by rw [hh]; exact q', fun ρ3 w3 σ3 q3 gd3 e3 z3 => ⟨z3.trans (wipe_wipe σ vs vs fun _ z => z), ρ3, w3, _, rfl, gd3, q3, fun b w4 q4 r4 e4 => ?_⟩⟩
    have g4 := (g2.go gd3.rel e3).go r4 e4
    cases b with
    | false =>
      dsimp only at q4 ⊢
      rw [if_neg Bool.false_ne_true] at q4 ⊢
      exact ⟨w4, acc, rfl, g4, q4⟩
    | true =>
      dsimp only at q4 ⊢
      rw [if_pos rfl] at q4 ⊢
      refine ⟨ρ3, w4, _, rfl, gd3.ext r4 e4, q4, fun ds1 w5 J1 q5 r5 e5 ok1 => ?_⟩
      have g5 := g4.go r5 e5
      have gd5 := (gd3.ext r4 e4).ext r5 e5
      let Inn : Nat → Hp → Prop := fun j H' => ∃ w' acc, w'.H = H' ∧ GathS X w1 D w' acc ∧ Ex0 w5 w' ∧ wSc vs1 gg1 gt1 ge ρ3 (ds1.drop j) acc w'.h (fun acc1 h5 => wSc2 vs vs1 gg gt gi1 gg1 gt1 ge ρ (ds.drop (i + 1)) acc1 h5 fun acc h2 => sortedK acc h2 Q3)
      refine ⟨fun j k H' => k = ds1.length - j ∧ j ≤ ds1.length ∧ Inn j H', ⟨ds1.length, rfl, Nat.zero_le _, w5, acc, rfl, g5, (Ext.refl w5).w, q5⟩, fun j k H' ⟨hk, hlj, w6, acc6, eH6, g6, x6, q6⟩ => ?_⟩
      subst eH6 hk
      by_cases hj : j < ds1.length
      · rw [List.drop_eq_getElem_cons hj] at q6
        refine .inr ⟨ok1.go j w6 x6 g6.rel hj, Inn (j + 1), fun H' iv => ⟨ds1.length - (j + 1), by omega, rfl, hj, iv⟩, fun x1 H7 hy1 => ?_⟩
        obtain ⟨w7, eH7, hh7, r7, e7, p7⟩ := ok1.yld j w6 x1 H7 x6 g6.rel hy1 ds1[j] (List.getElem?_eq_getElem hj)
        subst eH7
        have g7 := g6.go r7 e7
        have gd7 : Good X.K ρ3 w7 σ3 := (gd5.ext0 g6.rel x6).ext r7 e7
        refine ⟨ds1[j], wipD ρ3 vs1, w7, _, rfl, gd7.wipe vs1, p7, by rw [hh7]; exact q6, fun ρ8 w8 σ8 q8 gd8 e8 z8 => ⟨z8.trans (wipe_wipe σ3 vs1 vs1 fun _ z => z), ρ8, w8, _, rfl, gd8, q8, fun b1 w9 q9 r9 e9 => ?_⟩⟩
        have g9 := (g7.go gd8.rel e8).go r9 e9
        have x9 : Ex0 w5 w9 := ((x6.fst e7).fst e8).fst e9
        cases b1 with
        | false =>
          dsimp only at q9 ⊢
          rw [if_neg Bool.false_ne_true] at q9 ⊢
          exact ⟨w9, acc6, rfl, g9, x9, q9⟩
        | true =>
          dsimp only at q9 ⊢
          rw [if_pos rfl] at q9 ⊢
          refine ⟨ρ8, w9, _, rfl, gd8.ext r9 e9, q9, fun y wa va ⟨k, ey, hz, qa⟩ ra ea pa => ?_⟩
          subst ey
          obtain ⟨S, m, ev, hS, hm, wb, eb, hb, gb, xb⟩ := (g9.go ra ea).add nD r1 pa hz
          exact ⟨k, S, m, ev, hS, hm, wb, k :: acc6, eb, gb, (x9.fst ea).trans xb, by rw [hb]; exact qa⟩
      · have e : j = ds1.length := by omega
        subst e
        rw [List.drop_length] at q6
        exact .inl ⟨ok1.stop w6 x6 g6.rel, w6, acc6, rfl, g6, q6⟩
  · have e : i = ds.length := by omega
    subst e
    rw [List.drop_length] at q'
    obtain ⟨S, m, hS, hm, hle⟩ := g'.at_
    obtain ⟨hone, qq⟩ := q'
    refine .inl ⟨ok.stop w' g'.ext.w g'.rel, D, S, m, rfl, hS, hone.imp (fun z k hk => z k ((hm k).1 hk)) (fun z k hk => z k ((hm k).1 hk)), fun ks p hnd hmem hw np => ?_⟩
    obtain ⟨r2, e2, p2⟩ := new_lst (p := p) g'.rel (rp_keys ks) np
    exact out.go r2 ((e1.trans g'.ext).trans e2) p2 (qq ks hnd (fun k => (hmem k).trans (hm k)) hw)
variable {elt tg iter tg1 iter1 : Expr} {ifs ifs1 : List Expr} {scope : Scope} {pos pos2 p : Pos} {gi gi1 : GI} {gg gg1 : GG} {gt gt1 : GT} {ge : GE}
theorem e_sortSc2 (own : List (Str × Nat)) (vs1 : List Nat) (hc : X.calm = true) (hu : X.A.units + 64 < cLine) (hgl : Gl X "sorted") (hm : X.mg "sorted" = none) (hN : X.N.Nodup) (hi : I3 X tg iter gi) (ok : BlkOk X.N X.env.scope scope own) (hv : ∀ i ∈ vs1, i ∈ own.map (·.2))
    (hg : ∀ (s : Shared) (H : Hp) (C : Addr) (cl : List (Str × Addr)) (fp : List Addr), G3t (X.blk s H scope (compEnvC scope cl C X.env) fp) tg (own.map (·.2)) gg) (ht : ∀ (s : Shared) (H : Hp) (C : Addr) (cl : List (Str × Addr)) (fp : List Addr), T3s (X.blk s H scope (compEnvC scope cl C X.env) fp) ifs gt)
    (hi1 : ∀ (s : Shared) (H : Hp) (C : Addr) (cl : List (Str × Addr)) (fp : List Addr), I3 (X.blk s H scope (compEnvC scope cl C X.env) fp) tg1 iter1 gi1)
    (hg1 : ∀ (s : Shared) (H : Hp) (C : Addr) (cl : List (Str × Addr)) (fp : List Addr), G3t (X.blk s H scope (compEnvC scope cl C X.env) fp) tg1 vs1 gg1) (ht1 : ∀ (s : Shared) (H : Hp) (C : Addr) (cl : List (Str × Addr)) (fp : List Addr), T3s (X.blk s H scope (compEnvC scope cl C X.env) fp) ifs1 gt1)
    (he : ∀ (s : Shared) (H : Hp) (C : Addr) (cl : List (Str × Addr)) (fp : List Addr), E3 (X.blk s H scope (compEnvC scope cl C X.env) fp) elt ge) (hs : ∀ x, foldedSetIterable iter X.env x = pure x := by intro _; rfl) (hs1 : ∀ env x, foldedSetIterable iter1 env x = pure x := by intro _ _; rfl)
    (hst : starEach [(.SetComp elt [⟨tg, iter, ifs, 0⟩, ⟨tg1, iter1, ifs1, 0⟩] scope pos)] X.env = (false, eval (.SetComp elt [⟨tg, iter, ifs, 0⟩, ⟨tg1, iter1, ifs1, 0⟩] scope pos) X.env) :: starEach [] X.env := by rfl) :
    E3 X (.Call (.Name "sorted" p) [(.SetComp elt [⟨tg, iter, ifs, 0⟩, ⟨tg1, iter1, ifs1, 0⟩] scope pos)] [] pos2) (gSortSc2 (own.map (·.2)) vs1 gi gg gt gi1 gg1 gt1 ge) := by
  have pe : PE X (.SetComp elt [⟨tg, iter, ifs, 0⟩, ⟨tg1, iter1, ifs1, 0⟩] scope pos) (tGa (fun D => SetMO X.prog X.w D (fun _ => false) 0) (loI X.K gi) (loG X.K (own.map (·.2)) gg) (loT X.K gt) (tlIn (loI X.K gi1) (loG X.K vs1 gg1) (loT X.K gt1) (tlSet X.prog X.w (lo X.K ge)) vs1) (own.map (·.2))) := by
    refine ⟨fun pins s σ H Q I h => ?_⟩
    rw [PpSet.eval_SetComp]
    refine gather (vs1 := vs1) (g := loG X.K (List.map (fun x : Str × Nat => x.2) own) gg) (tt := loT X.K gt) (tl := tlIn (loI X.K gi1) (loG X.K vs1 gg1) (loT X.K gt1) (tlSet X.prog X.w (lo X.K ge)) vs1) (o0 := set0 X.w) (u0 := fun D => SetMO X.prog X.w D (fun _ => false) 0) mkSet_ok rfl (fun H h D e => setMO_new (setM_at0 e)) (node_set2 hs1) lfIn_mono hc hN I hi ok hv hg ht (fun s H C cl fp => plf_in (X := X.blk s H scope (compEnvC scope cl C X.env) fp) rfl hc (hi1 s H C cl fp) (hg1 s H C cl fp) (ht1 s H C cl fp) (he s H C cl fp)) rfl hs h fun D C s' m H' I' q hn f => ⟨m, hn, fun h'' sb => ?_⟩
    obtain ⟨f0, f1, f2, f3, f4, f5⟩ := f
    exact ⟨.ref D, H', I'.turned (t' := s'.toks) (fun b o hb e => (sb.2 b hb).trans e) f0 f1 f3 f4 f5, rfl, q⟩
  exact PEimp (pe_callB (cr_sortedM hc hu) hgl hm (by decide +kernel) (pa_cons pe pa_nil hst) (by decide) (by decide) hst (by rfl)) fun _ _ _ h => lo_sc2 h
end
end G3

/-! {k: v for target in iter if ..}, keys ints or texts -/
namespace G3
open PySem PySem.Spec PyProof.Rows L2
@[simp] def wDc (vs : List Nat) (gg : GG) (gt : GT) (gk gv : GE) (ρ : Sl) : List Dv → List (Key × Dv) → Mh → (List (Key × Dv) → Mh → Prop) → Prop
  | [], acc, h, Q => Q acc h
  | d :: ds, acc, h, Q => gg d (wipD ρ vs) h fun ρ2 h2 => gt ρ2 h2 fun b h3 => if b = true then gk ρ2 h3 fun y h4 => gv ρ2 h4 fun z h5 => ∃ k, y = keyD k ∧ acc.length < sizeLine ∧ wDc vs gg gt gk gv ρ ds (putD acc k z) h5 Q else wDc vs gg gt gk gv ρ ds acc h3 Q
@[simp] def gDc (vs : List Nat) (gi : GI) (gg : GG) (gt : GT) (gk gv : GE) : GE := fun ρ h Q => gi ρ h fun ds h1 => wDc vs gg gt gk gv ρ ds [] h1 fun acc h2 => ∀ p, h2 p = none → Q (.ref p) (mput h2 p (.dK acc))
structure GathD (X : Cx) (w1 : Wd) (D : Addr) (w : Wd) (acc : List (Key × Dv)) : Prop where
  at_ : ∃ xs, w.H D = some (.dK xs) ∧ RpK X.K w acc xs
  un : w.G D = none
  rel : Rel X.K w
  ext : Ext w1 w
theorem RpK.fz {κ : Type} {K : PySem.W.Frag} {w v : Wd} (e : Fzs w v) {kvs : List (κ × Dv)} {xs : List (κ × V)} (r : RpK K w kvs xs) : RpK K v kvs xs := Paired.mapP r fun _ _ z => ⟨z.1, Rp.fz e z.2⟩
section
variable {X : Cx} {w1 : Wd} {D : Addr}
theorem GathD.go {w w' : Wd} {acc : List (Key × Dv)} (g : GathD X w1 D w acc) (r : Rel X.K w') (e : Ext w w') : GathD X w1 D w' acc := by
  obtain ⟨xs, h1, h2⟩ := g.at_
  obtain ⟨a, b⟩ := e.junk D _ g.un h1 (fun _ z => by cases z)
  exact ⟨⟨xs, b, h2.fz e.fz⟩, a, r, g.ext.trans e⟩
/-- told at the end, as one that may change -/
theorem Rel.tellD {K : PySem.W.Frag} {w : Wd} (r : Rel K w) {D : Addr} (g : w.G D = none) {xs : List (Key × V)} {ds : List (Key × Dv)} (e : w.H D = some (.dK xs)) (ra : RpK K w ds xs) : Rel K ⟨mput w.h D (.dK ds), upd w.G D (.dK xs), w.H⟩ := by
  have fz : Fzs w ⟨mput w.h D (.dK ds), upd w.G D (.dK xs), w.H⟩ := fun p x h1 h2 => by
    have n : p ≠ D := fun z => by rw [z, g] at h2; cases h2
    exact ⟨by show upd w.G D _ p = _; rw [upd_ne n]; exact h2, by show mput w.h D _ p = _; rw [mput_ne n]; exact h1⟩
  refine ⟨fun p x h => ?_, fun a m h => ?_, r.tab.on e (fun _ z => by cases z) (fun x _ z => by rw [g] at z; cases z) (fun _ n => mput_ne n) (fun _ n => upd_ne n), r.all⟩
  · have h : upd w.G D (.dK xs) p = some x := h
    by_cases n : p = D
    · subst n
      rw [upd_same] at h
      cases h
      exact .inl e
    · rw [upd_ne n] at h
      rcases r.sub p x h with z | ⟨z1, z⟩
      · exact .inl z
      · exact .inr ⟨still_of z1 (mput_ne n), z⟩
  · have h : mput w.h D (.dK ds) a = some m := h
    by_cases n : a = D
    · subst n
      rw [mput_same] at h
      cases h
      exact ⟨xs, upd_same, RpK.fz fz ra⟩
    · rw [mput_ne n] at h
      exact RpO.fz fz (fun x z => by show upd w.G D _ a = _; rw [upd_ne n]; exact z) (fun _ => rfl) (r.obj a m h)
theorem lo_dc {vs : List Nat} {gi : GI} {gg : GG} {gt : GT} {gk gv : GE} {σ : L2.St} {H : Hp} {Q : VK} (h : lo X.K (gDc vs gi gg gt gk gv) σ H Q) : tDc (loI X.K gi) (loG X.K vs gg) (loT X.K gt) (lo X.K gk) (lo X.K gv) vs σ H Q := by
  obtain ⟨ρ, w, Q3, e, gd, q, out⟩ := h
  subst e
  refine ⟨ρ, w, _, rfl, gd, q, fun ds w1 J q1 r1 e1 ok D nD => ?_⟩
  have gD := (r1.hnone nD).1
  have lkD : ∀ p m, w1.h p = some m → p ≠ D := fun p m e z => by
    obtain ⟨u, hu⟩ := r1.there e
    rw [z, nD] at hu; cases hu
  let Inv' : Nat → Hp → Prop := fun i H' => ∃ w' acc, w'.H = H' ∧ GathD X w1 D w' acc ∧ wDc vs gg gt gk gv ρ (ds.drop i) acc w'.h (fun acc h2 => ∀ p, h2 p = none → Q3 (.ref p) (mput h2 p (.dK acc)))
  obtain ⟨r0, x0, _⟩ := untold_put (u := .dK []) nD r1 gD r1 (.inr rfl)
  refine ⟨fun i n H' => n = ds.length - i ∧ i ≤ ds.length ∧ Inv' i H', ⟨ds.length, rfl, Nat.zero_le _, ⟨w1.h, w1.G, upd w1.H D (.dK [])⟩, [], rfl, ⟨⟨[], upd_same, .nil⟩, gD, r0, x0⟩, q1⟩, fun i n H' ⟨hn, hl, w', acc, eH, g', q'⟩ => ?_⟩
  subst eH hn
  by_cases hi : i < ds.length
  · rw [List.drop_eq_getElem_cons hi] at q'
    refine .inr ⟨ok.go i w' g'.ext.w g'.rel hi, Inv' (i + 1), fun H' iv => ⟨ds.length - (i + 1), by omega, rfl, hi, iv⟩, fun x H'' hy => ?_⟩
    obtain ⟨w2, eH, hh, r2, e2, p2⟩ := ok.yld i w' x H'' g'.ext.w g'.rel hy ds[i] (List.getElem?_eq_getElem hi)
    subst eH
    have g2 := g'.go r2 e2
    refine ⟨ds[i], wipD ρ vs, w2, _, rfl, (((gd.ext r1 e1).ext g'.rel g'.ext).ext r2 e2).wipe vs, p2, by rw [hh]; exact q', fun ρ3 w3 σ3 q3 gd3 e3 z3 => ⟨z3.trans (wipe_wipe σ vs vs fun _ z => z), ρ3, w3, _, rfl, gd3, q3, fun b w4 q4 r4 e4 => ?_⟩⟩
    have g4 := (g2.go gd3.rel e3).go r4 e4
    cases b with
    | false =>
      dsimp only at q4 ⊢
      rw [if_neg Bool.false_ne_true] at q4 ⊢
      exact ⟨w4, acc, rfl, g4, q4⟩
    | true =>
      dsimp only at q4 ⊢
      rw [if_pos rfl] at q4 ⊢
      refine ⟨ρ3, w4, _, rfl, gd3.ext r4 e4, q4, fun y w5 v5 q5 r5 e5 p5 => ⟨ρ3, w5, _, rfl, (gd3.ext r4 e4).ext r5 e5, q5, fun z w6 v6 ⟨k, ey, hz, q6⟩ r6 e6 p6 => ?_⟩⟩
      subst ey
      have g6 := (g4.go r5 e5).go r6 e6
      obtain ⟨xs, hX, rk⟩ := g6.at_
      have ev : v5 = kV k := by
        cases k with
        | inl i => cases p5; rfl
        | inr z => cases p5; rfl
      obtain ⟨r7, x7, y7⟩ := untold_put (u := .dK (putK xs k v6)) nD r1 g6.un r6 (.inl ⟨g6.ext, fun _ z => by rw [hX] at z; cases z⟩)
      exact ⟨xs, k, ev, hX, by rw [← rk.length]; exact hz, ⟨w6.h, w6.G, upd w6.H D (.dK (putK xs k v6))⟩, putD acc k z, rfl, ⟨⟨_, upd_same, RpK.fz y7.fz (rk.put k p6)⟩, g6.un, r7, x7⟩, q6⟩
  · have e : i = ds.length := by omega
    subst e
    rw [List.drop_length] at q'
    obtain ⟨xs, hX, rk⟩ := g'.at_
    have r7 := g'.rel.tellD g'.un hX rk
    refine .inl ⟨ok.stop w' g'.ext.w g'.rel, out.go (w' := ⟨mput w'.h D (.dK acc), upd w'.G D (.dK xs), w'.H⟩) r7 ⟨fun p x h1 h2 => ?_, fun p x h1 h2 nt => ?_, fun p m h1 l => ?_⟩ (.ref D) (q' D (g'.rel.hG g'.un))⟩
    · obtain ⟨z1, z2⟩ := (e1.trans g'.ext).fz p x h1 h2
      have n : p ≠ D := fun z => by rw [z, g'.un] at z1; cases z1
      exact ⟨by show upd w'.G D _ p = _; rw [upd_ne n]; exact z1, by show mput w'.h D _ p = _; rw [mput_ne n]; exact z2⟩
    · obtain ⟨z1, z2⟩ := e1.junk p x h1 h2 nt
      obtain ⟨z3, z4⟩ := g'.ext.junk p x z1 z2 nt
      have n : p ≠ D := fun z => by rw [z, nD] at z2; cases z2
      exact ⟨by show upd w'.G D _ p = _; rw [upd_ne n]; exact z3, z4⟩
    · obtain ⟨z1, z2, z3⟩ := e1.lk p m h1 l
      obtain ⟨y1, y2, y3⟩ := g'.ext.lk p m z1 l
      exact ⟨by show mput w'.h D _ p = _; rw [mput_ne (lkD p m z1)]; exact y1, (upd_ne (lkD p m z1)).trans (y2.trans z2), y3.trans z3⟩
variable {kx vx tg iter : Expr} {ifs : List Expr} {scope : Scope} {pos : Pos} {gi : GI} {gg : GG} {gt : GT} {gk gv : GE}
theorem e_dc (own : List (Str × Nat)) (hc : X.calm = true) (hN : X.N.Nodup) (hi : I3 X tg iter gi) (ok : BlkOk X.N X.env.scope scope own)
    (hg : ∀ (s : Shared) (H : Hp) (C : Addr) (cl : List (Str × Addr)) (fp : List Addr), G3t (X.blk s H scope (compEnvC scope cl C X.env) fp) tg (own.map (·.2)) gg) (ht : ∀ (s : Shared) (H : Hp) (C : Addr) (cl : List (Str × Addr)) (fp : List Addr), T3s (X.blk s H scope (compEnvC scope cl C X.env) fp) ifs gt)
    (hk : ∀ (s : Shared) (H : Hp) (C : Addr) (cl : List (Str × Addr)) (fp : List Addr), E3 (X.blk s H scope (compEnvC scope cl C X.env) fp) kx gk)
    (he : ∀ (s : Shared) (H : Hp) (C : Addr) (cl : List (Str × Addr)) (fp : List Addr), E3 (X.blk s H scope (compEnvC scope cl C X.env) fp) vx gv) (hs : ∀ x, foldedSetIterable iter X.env x = pure x := by intro _; rfl) :
    E3 X (.DictComp kx vx [⟨tg, iter, ifs, 0⟩] scope pos) (gDc (own.map (·.2)) gi gg gt gk gv) :=
  PEimp (pe_dc (g := loG X.K (List.map (fun x : Str × Nat => x.2) own) gg) (tt := loT X.K gt) (tk := lo X.K gk) (tv := lo X.K gv) hc hN hi ok hg ht hk he hs) fun _ _ _ h => lo_dc h
end
end G3

namespace G3
open PySem PySem.Spec PyProof.Rows L2
/-- int(a whole number or a truth) -/
def cInt1 : DC := fun ds h Q => (∃ i, ds = [.int i] ∧ Q (.int i) h) ∨ ∃ k, ds = [.bl k] ∧ Q (.int (if k then 1 else 0)) h
@[simp] theorem cInt1_int {i : Int} {h : Mh} {Q : Kd} : cInt1 [.int i] h Q ↔ Q (.int i) h := by
  constructor
  · rintro (⟨_, e, q⟩ | ⟨_, e, q⟩)
    · cases e; exact q
    · cases e
  · intro q
    exact .inl ⟨_, rfl, q⟩
@[simp] theorem cInt1_bl {k : Bool} {h : Mh} {Q : Kd} : cInt1 [.bl k] h Q ↔ Q (.int (if k then 1 else 0)) h := by
  constructor
  · rintro (⟨_, e, q⟩ | ⟨_, e, q⟩)
    · cases e
    · cases e; exact q
  · intro q
    exact .inr ⟨_, rfl, q⟩
theorem c_int1 {X : Cx} : C3 X (.type "int") cInt1 := by
  intro pins s σ H xs us Q I rx h
  obtain ⟨ds, w, Q3, e, r, ra, q, out⟩ := h
  subst e
  rcases q with ⟨i, rfl, q⟩ | ⟨k, rfl, q⟩
  · obtain ⟨x, rfl, rp⟩ := ra.one
    cases rp
    exact call_int1 pins s σ w.H _ us Q I rx (.inl ⟨i, rfl, out.go r (Ext.refl w) (.int _) q⟩)
  · obtain ⟨x, rfl, rp⟩ := ra.one
    cases rp
    exact call_int1 pins s σ w.H _ us Q I rx (.inr ⟨k, rfl, out.go r (Ext.refl w) (.int _) q⟩)
end G3

namespace G3
open PySem PyProof.Rows L2

/-! ### own exception classes: what is asked of them, as one truth -/
def exB (K : PySem.W.Frag) (C : Addr) : Bool :=
  decide (PySem.W.findIn K (.ref C) "__getattribute__" = some (some (.builtin "BaseException.__getattribute__"))) && decide (PySem.W.findIn K (.ref C) "__getattr__" = some none) &&
  decide (PySem.W.subIn K (.ref C) (.type "BaseException") = some true) && PySem.W.hasDictIn K C && decide (PySem.W.findIn K (.ref C) "__class__" = some (some (.builtin "object.__class__"))) &&
  decide (PySem.W.specialIn K (.builtin "object.__class__") "__get__" = some (some (.builtin "getset_descriptor.__get__"))) && decide (PySem.W.takesIn K (.builtin "object.__class__") = some true) &&
  decide (PySem.W.mroIn K C (.type "object") = some true) && decide (PySem.W.typeIn K (.ref C) = some (.type "type")) && PySem.W.keepIn K (.ref C) && decide (PySem.W.findIn K (.ref C) "at" = some none)
abbrev CTab := List (Str × List (Str × Bool))
def clsB (K : PySem.W.Frag) (tb : CTab) : Bool := tb.all fun p => match PySem.W.nsIn K mainGlobals p.1 with
  | some (some (.ref C)) => exB K C && (decide (PySem.W.kitOne K (.ref C) (.type "ValueError") = some true) && p.2.all fun q => match PySem.W.nsIn K mainGlobals q.1 with
    | some (some (.ref D)) => decide (PySem.W.kitOne K (.ref C) (.ref D) = some q.2) && decide (PySem.W.exmOne K (.ref C) (.ref D) = some q.2)
    | _ => false)
  | _ => false
theorem mem_lookup {β : Type} {n : Str} {b : β} : ∀ {l : List (Str × β)}, l.lookup n = some b → (n, b) ∈ l
  | [], h => by cases h
  | (m, c) :: l, h => by
    rw [List.lookup] at h
    by_cases e : n = m
    · subst e
      rw [beq_self_eq_true] at h
      cases h
      exact List.mem_cons_self
    · rw [beq_eq_false_iff_ne.mpr e] at h
      exact List.mem_cons_of_mem _ (mem_lookup h)
structure ExK (K : PySem.W.Frag) (C : Addr) : Prop where
  c : ExcC K C
  ty : PySem.W.typeIn K (.ref C) = some (.type "type")
  kp : PySem.W.keepIn K (.ref C) = true
  at_ : PySem.W.findIn K (.ref C) "at" = some none
theorem ExK.xf {K : PySem.W.Frag} {C : Addr} (x : ExK K C) : XfC K C := ⟨x.c.hg, x.c.hk, x.c.hs, x.c.hd⟩
theorem exB_ok {K : PySem.W.Frag} {C : Addr} (h : exB K C = true) : ExK K C := by
  unfold exB at h
  simp only [Bool.and_eq_true, decide_eq_true_eq] at h
  obtain ⟨⟨⟨⟨⟨⟨⟨⟨⟨⟨h1, h2⟩, h3⟩, h4⟩, h5⟩, h6⟩, h7⟩, h8⟩, h9⟩, h10⟩, h11⟩ := h
  exact ⟨⟨h1, h2, h3, h4, h5, h6, h7, h8⟩, h9, h10, h11⟩
theorem cls_row {K : PySem.W.Frag} {tb : CTab} {n : Str} {C : Addr} {row : List (Str × Bool)} (h : clsB K tb = true) (a : clsAt K n C) (l : tb.lookup n = some row) :
    ExK K C ∧ PySem.W.kitOne K (.ref C) (.type "ValueError") = some true ∧ ∀ m D b, clsAt K m D → row.lookup m = some b → PySem.W.kitOne K (.ref C) (.ref D) = some b ∧ PySem.W.exmOne K (.ref C) (.ref D) = some b := by
  have q := List.all_eq_true.mp h _ (mem_lookup l)
  unfold clsAt at a
  dsimp only at q
  rw [a] at q
  simp only [Bool.and_eq_true, decide_eq_true_eq] at q
  obtain ⟨q1, q2, q3⟩ := q
  refine ⟨exB_ok q1, q2, fun m D b ha hl => ?_⟩
  have z := List.all_eq_true.mp q3 _ (mem_lookup hl)
  unfold clsAt at ha
  dsimp only at z
  rw [ha] at z
  obtain ⟨z1, z2⟩ := Bool.and_eq_true_iff.mp z
  exact ⟨of_decide_eq_true z1, of_decide_eq_true z2⟩

section
variable {X : Cx} {pins : List (Addr × Obj)} {σ : L2.St} {H : Hp} {s : Shared}
/-- an exception, as an object of its class -/
theorem inst_at {K : PySem.W.Frag} {w : Wd} {p C : Addr} {d : Option Addr} {fs : List (Str × Dv)} (r : Rel K w) (I : L2.Inv X pins σ w.H s) (e : w.H p = some (ExV C d p)) (q : (d = none ∧ fs = []) ∨ ∃ dd vs, d = some dd ∧ w.h dd = none ∧ w.G dd = some (.xd vs) ∧ RpF K w fs vs) :
    ∃ ox od, PySem.W.InstAt s.heap p ox C od := by
  obtain ⟨⟨oe, vs, g1, g2, g3⟩, _, _⟩ := (show ObjOk X.prog X.w w.H s.heap p (.ext _) from I.hok p _ e)
  have no : PySem.W.notCls oe = true := by unfold PySem.W.notCls; rw [g3] <;> rfl
  rcases q with ⟨rfl, _⟩ | ⟨dd, us, rfl, h1, h2, h3⟩
  · exact ⟨oe, none, g1, g2.1, no, by rw [g2.2]; trivial⟩
  · have hx : ObjOk X.prog X.w w.H s.heap dd (.xd us) := by
      rcases r.sub dd _ h2 with z | ⟨_, _, o, z⟩
      · exact I.hok dd _ z
      · exact (I.hok dd _ z).2
    obtain ⟨mA, hns, hr⟩ := hx
    obtain ⟨od, ho, hl⟩ := lookIn_ns hns
    exact ⟨oe, some od, g1, g2.1, no, by rw [g2.2]; exact ho⟩
/-- isinstance, of exceptions too -/
def cIsiE (tb : CTab) : DC := fun ds h Q => cIsi ds h Q ∨ ∃ p n fs row c b, ds = [.ref p, c] ∧ h p = some (.exc n fs) ∧ tb.lookup n = some row ∧ ((∃ m, c = .obj m ∧ row.lookup m = some b) ∨ (c = .ty "ValueError" ∧ b = true)) ∧ Q (.bl b) h
theorem c_isiE {tb : CTab} (hB : clsB X.K tb = true) : C3 X (.builtin "isinstance") (cIsiE tb) := by
  intro pins s σ H xs us Q I rx h
  obtain ⟨ds, w, Q3, e, r, ra, h | ⟨p, n, fs, row, c, b, rfl, hp, hrow, hc, q⟩, out⟩ := h
  · exact c_isi pins s σ H xs us Q I rx ⟨ds, w, Q3, e, r, ra, h, out⟩
  · subst e
    obtain ⟨x, y, rfl, rp, rq⟩ := ra.two
    cases rp
    obtain ⟨u1, u2, rfl, r1, r2⟩ := vals2 rx
    cases (show u1 = Value.ref p from r1)
    obtain ⟨C, d, hC, hH, hd⟩ := r.mexc hp
    obtain ⟨EK, kv, ko⟩ := cls_row hB hC hrow
    obtain ⟨ox, od, J⟩ := inst_at r I hH hd
    obtain ⟨cd, hcd, _⟩ := PySem.W.any_some EK.c.hd
    have Z : PySem.W.KitX X.K (.ref p) (.ref C) (fun h => PySem.W.InstAt h p ox C od) := PySem.W.kitx_exc (by rw [hcd]; rfl) EK.c.hg EK.c.hk EK.c.hs EK.c.ha EK.c.hn EK.c.ht EK.c.hm
    have fin : ∀ tk, EP X pins σ Q (.bool b) { s with toks := tk } := fun tk => ⟨.bl b, w.H, I.tok tk, rfl, out _ w _ q r (Ext.refl w) (.bl _)⟩
    rcases hc with ⟨m, rfl, hm⟩ | ⟨rfl, rfl⟩
    · cases rq with
      | obj hD =>
        cases (show u2 = Value.ref _ from r2)
        exact PySem.W.kia_one Z I.kIn J (ko _ _ _ hD hm).1 (fun z => nomatch z) fin
    · cases rq
      cases (show u2 = Value.type "ValueError" from r2)
      exact PySem.W.kia_one Z I.kIn J kv (fun z => nomatch z) fin
/-- e.at -/
@[simp] def gAt (tb : CTab) (f : Str) (go : GE) : GE := fun ρ h Q => go ρ h fun d h1 => ∃ p n fs v, d = .ref p ∧ h1 p = some (.exc n fs) ∧ (tb.lookup n).isSome = true ∧ fs.lookup f = some v ∧ Q v h1
theorem RpF.get {K : PySem.W.Frag} {w : Wd} {f : Str} {d : Dv} : ∀ {fs : List (Str × Dv)} {vs : List (Str × V)}, RpF K w fs vs → fs.lookup f = some d → ∃ v, vs.lookup f = some v ∧ Rp K w d v
  | [], _, _, h => by cases h
  | (g, x) :: fs, _, .cons ⟨e1, e2⟩ t, h => by
    rename_i q vs
    obtain ⟨g', y⟩ := q
    dsimp only at e1 e2
    subst e1
    rw [List.lookup] at h ⊢
    by_cases e : f = g
    · subst e
      rw [beq_self_eq_true] at h ⊢
      cases h
      exact ⟨_, rfl, e2⟩
    · rw [beq_eq_false_iff_ne.mpr e] at h ⊢
      exact RpF.get t h
theorem e_at {e : Expr} {go : GE} {pos : Pos} {tb : CTab} (hB : clsB X.K tb = true) (he : E3 X e go) (hb : attributeBase e "at" X.env (eval e X.env) = eval e X.env := by rfl) : E3 X (.Attribute e "at" pos) (gAt tb "at" go) := by
  refine ⟨fun pins s σ H Q I ⟨ρ, w, Q3, eH, gd, q, out⟩ => ?_⟩
  subst eH
  refine attr_of hb (thn (he.run pins s σ w.H (fun x H1 => ∃ p n fs d1 w1, x = .ref p ∧ w1.H = H1 ∧ Rel X.K w1 ∧ Ext w w1 ∧ w1.h p = some (.exc n fs) ∧ (tb.lookup n).isSome = true ∧ fs.lookup ("at" : Str) = some d1 ∧ Q3 d1 w1.h) I ⟨ρ, w, _, rfl, gd, q, fun d1 w1 v1 ⟨p, n, fs, v, e1, hp, ht, hl, q1⟩ r1 ex p1 => ?_⟩) fun u s1 hh => ?_)
  · subst e1
    cases p1
    exact ⟨p, n, fs, v, w1, rfl, rfl, r1, ex, hp, ht, hl, q1⟩
  · obtain ⟨x, H1, I1, rx, p, n, fs, d1, w1, rfl, rfl, r1, ex, hp, ht, hl, q1⟩ := hh
    obtain rfl : u = Value.ref p := rx
    obtain ⟨C, d, hC, hH, hd⟩ := r1.mexc hp
    obtain ⟨row, hrow⟩ := Option.isSome_iff_exists.mp ht
    obtain ⟨EK, _, _⟩ := cls_row hB hC hrow
    rcases hd with ⟨_, rfl⟩ | ⟨dd, us, rfl, h1, h2, h3⟩
    · cases hl
    obtain ⟨⟨oe, vs, g1, g2, g3⟩, _, _⟩ := (show ObjOk X.prog X.w w1.H s1.heap p (.ext _) from I1.hok p _ hH)
    have hx : ObjOk X.prog X.w w1.H s1.heap dd (.xd us) := by
      rcases r1.sub dd _ h2 with z | ⟨_, _, o, z⟩
      · exact I1.hok dd _ z
      · exact (I1.hok dd _ z).2
    obtain ⟨mA, hns, hr⟩ := hx
    obtain ⟨od, ho, hlk⟩ := lookIn_ns hns
    obtain ⟨v, hv, rv⟩ := RpF.get h3 hl
    obtain ⟨u, hu, ru⟩ := RelO.some_of (v := v) (o := mA "at") (by rw [← hv]; exact hr "at")
    have no : PySem.W.notCls oe = true := by unfold PySem.W.notCls; rw [g3] <;> rfl
    have J : PySem.W.InstAt s1.heap p oe C (some od) := ⟨g1, g2.1, no, by rw [g2.2]; exact ho⟩
    exact HandSPX.exc_get I1.kIn J EK.c.hg EK.c.hk EK.c.hs (PySem.W.findObj_own EK.c.hd EK.at_ rfl (by rw [hlk, hu])) (handed_of ru) ⟨v, _, I1.tok _, ru, out d1 w1 v q1 r1 ex rv⟩
/-! ### making one -/
/-- what is tracked at a as something of its own is told otherwise -/
theorem Inv.retell {a : Addr} {o u : HO} (I : L2.Inv X pins σ H s) (e : H a = some o) (mu : Mut (some o)) (new : ObjOk X.prog X.w (upd H a u) s.heap a u) : L2.Inv X pins σ (upd H a u) s := by
  have q := I.write (h' := s.heap) (t' := s.toks) (x := a) (e := a) (o := u) (by rw [e]; exact mu) (.inl rfl) (fun _ _ _ z => z) (objOk_get new) new
  exact q
theorem exV_ok {P : Program} {w : World} {H : Hp} {h : Heap} {a C : Addr} {d : Option Addr} {oe : Obj} {vs : Array Value} (e : h.get? a = some oe) (z : Zc (.ref C) d oe) (k : oe.data = .fields vs) : ObjOk P w H h a (ExV C d a) :=
  ⟨⟨oe, vs, e, z, k⟩, ⟨oe, e⟩, fun h1 h2 ⟨o, v, q, r⟩ m => ⟨o, v, m o q, r⟩⟩
/-- the tree state with a new exception -/
theorem new_exc {K : PySem.W.Frag} {w : Wd} {n : Str} {C a : Addr} (r : Rel K w) (hc : clsAt K n C) (e : w.H a = none) :
    Rel K ⟨mput w.h a (.exc n []), upd w.G a (ExV C none a), upd w.H a (ExV C none a)⟩ ∧ Ext w ⟨mput w.h a (.exc n []), upd w.G a (ExV C none a), upd w.H a (ExV C none a)⟩ :=
  r.put (.inl e) fun v ex g => ⟨C, none, hc, g, .inl ⟨rfl, rfl⟩⟩
theorem new_excF {K : PySem.W.Frag} {w : Wd} {n f : Str} {C a dx : Addr} {d : Dv} {v : V} (r : Rel K w) (hc : clsAt K n C) (e : w.H a = none) (e' : w.H dx = none) (ne : dx ≠ a) (rv : Rp K w d v) :
    Rel K ⟨mput w.h a (.exc n [(f, d)]), upd (upd w.G dx (.xd [(f, v)])) a (ExV C (some dx) a), upd (upd w.H dx (.xd [(f, v)])) a (ExV C (some dx) a)⟩ ∧
      Ext w ⟨mput w.h a (.exc n [(f, d)]), upd (upd w.G dx (.xd [(f, v)])) a (ExV C (some dx) a), upd (upd w.H dx (.xd [(f, v)])) a (ExV C (some dx) a)⟩ := by
  obtain ⟨r1, x1⟩ := r.newF e' (.xd [(f, v)])
  obtain ⟨r2, x2⟩ := r1.put (p := a) (u := ExV C (some dx) a) (m := .exc n [(f, d)]) (.inl (by show upd w.H dx _ a = none; rw [upd_ne (Ne.symm ne)]; exact e)) fun u ex g => by
    obtain ⟨z1, z2⟩ := ex.fz dx (.xd [(f, v)]) (r.hnone e').2 upd_same
    exact ⟨C, some dx, hc, g, .inr ⟨dx, [(f, v)], rfl, z2, z1, .cons ⟨rfl, (rv.ext x1).ext ex⟩ .nil⟩⟩
  exact ⟨r2, x1.trans x2⟩
variable {x : Str} {C : Addr} {e : Expr} {ge : GE} {p pos : Pos}
abbrev veB : List Value := [.type "ValueError", .type "Exception", .type "BaseException", .type "object"]
/-- X(e), an own class without own __init__ -/
@[simp] def gMk (n : Str) (ge : GE) : GE := fun ρ h Q => ge ρ h fun _ h1 => ∀ a, h1 a = none → Q (.ref a) (mput h1 a (.exc n []))
theorem e_mk (q : PySem.W.excIn X.K C veB "ValueError.__new__" = true) (gC : X.mg x = some (.ref C)) (hc : clsAt X.K x C) (kC : PySem.W.keepIn X.K (.ref C) = true) (hg : Gl X x) (he : E3 X e ge)
    (hs : starEach [e] X.env = (false, eval e X.env) :: starEach [] X.env := by rfl) (hdb : (x == ("__debug__" : Str)) = false := by decide) : E3 X (.Call (.Name x p) [e] [] pos) (gMk x ge) := by
  have base := pe_exc1 (p := p) (pos := pos) (PySem.F.excBase_ValueError) q gC kC hg he hs hdb
  refine ⟨fun pins s σ H Q I ⟨ρ, w, Q3, eH, gd, h, out⟩ => ?_⟩
  subst eH
  refine thn (base.run pins s σ w.H (fun v H2 => ∃ a H1, v = .ref a ∧ H1 a = none ∧ H2 = upd H1 a (ExO (.ref C) a) ∧ Q (.ref a) (upd H1 a (ExV C none a))) I ⟨ρ, w, _, rfl, gd, h, fun d1 w1 v1 q1 r1 e1 p1 a ha => ?_⟩) fun u s1 ⟨v, H2, I2, rv, a, H1, ev, ha, eH2, q2⟩ => ?_
  · obtain ⟨r2, e2⟩ := new_exc r1 hc ha
    exact ⟨a, w1.H, rfl, ha, rfl, out (.ref a) _ _ (q1 a (r1.hnone ha).2) r2 (e1.trans e2) (.ref a)⟩
  · subst eH2 ev
    obtain ⟨⟨oe, vs, g1, g2, g3, _⟩, _, _⟩ := (show ObjOk X.prog X.w _ s1.heap a (.ext _) from I2.hok a _ upd_same)
    have J := Inv.retell (u := ExV C none a) I2 upd_same trivial (exV_ok g1 g2 g3)
    rw [upd_upd] at J
    exact ⟨.ref a, _, J, rv, q2⟩
/-- X.__init__(self, ..), X an own class that has ValueError's -/
theorem pe_cinit {pl : Sem Bool} {p1 p2 : Pos} {es : List Expr} {ta : TA} (hg : Gl X x) (hm : X.mg x = some (.ref C)) (h1 : PySem.W.specialIn X.K (.ref C) "__getattribute__" = some (some (.builtin "type.__getattribute__")))
    (h2 : PySem.W.readsIn X.K C (.type "type") = true) (h3 : PySem.W.findCls X.K (.ref C) (.type "type") "__init__" = some (.val (.builtin "ValueError.__init__"))) (ha : PA X (e :: es) ta)
    (hc : eval (.Call (.Attribute (.Name x p1) "__init__" p2) (e :: es) [] pos) X.env = (do
      let ov ← eval (.Name x p1) X.env
      standAt p2.atName
      let (f, first) ← holding [ov] (getMethod ov "__init__" pl)
      callWith pos f first (backTo pos (starEach (e :: es) X.env)) (backToKw pos (keywordEach [] X.env))) := by rfl)
    (he : starEach (e :: es) X.env = (false, eval e X.env) :: starEach es X.env := by rfl) (hpl : (backTo pos (starEach es X.env)).any (·.1) = false := by rfl) (hdb : (x == ("__debug__" : Str)) = false := by decide) :
    PE X (.Call (.Attribute (.Name x p1) "__init__" p2) (e :: es) [] pos) (tVeI X.K ta) := by
  refine ⟨fun pins s σ H Q I h => ?_⟩
  refine PySem.W.methodCall_KW (ld_glob I hg hm ?_ hdb) hc
  refine PySem.W.method_cls I.kIn h1 (PySem.W.cls_value I.kIn h2 h3 (by decide +kernel) ?_)
  show wpAny _ _ (callWith pos (Value.builtin "ValueError.__init__") [] (backTo pos (starEach (e :: es) X.env)) []) _ _ _
  refine PyProof.Rows.callWith_method1 (thn (ha.run pos pins _ σ H _ (I.tok _) h) fun us s1 ⟨vs, H1, I1, r1, a, D, ws, ev, hl, T, ea, q⟩ => ?_) he hpl
  subst ev
  cases r1 with
  | @cons _ u0 _ ur ra rw' =>
    cases (show u0 = Value.ref a from ra)
    exact oinit_ok T I1 ea (by rw [← Paired.length rw', sizeLine_eq]; omega) fun s' J => ⟨.non, H1, J, rfl, q⟩
/-- C(e, ..) as a value, C's own __init__ keeping sp -/
def tVO (C : Addr) (sp : Sp) (ta : TA) : TE := fun σ H Q => ta σ H fun vs H1 => vs.length ≤ 1000 ∧ ∀ a, H1 a = none → sp (.ref a :: vs) (upd H1 a (exo a C none))
  (fun v H2 => v = .non ∧ ∃ (d : Addr) (fs : List (Str × V)), H2 a = some (exo a C (some d)) ∧ H2 d = some (exd d fs) ∧ d ≠ a ∧ Q (.ref a) (upd (upd H2 d (.xd fs)) a (ExV C (some d) a))) (fun _ _ _ => False)
theorem pe_oexV {es : List Expr} {ta : TA} {fI : Addr} {k : Nat} {fd : FuncData} {ps : List Str} {sp : Sp} (T : OexC X.K C) (iC : PySem.W.findIn X.K (.ref C) "__init__" = some (some (.ref fI))) (tI : PySem.W.typeIn X.K (.ref fI) = some (.type "function"))
    (F1 : FnOk X.prog X.w X.K X.mg X.base CX0 k fI fd ps sp) (hr : Room (k + 1) X.A) (hb : Binds X.K fd ps []) (hg : Gl X x) (hm : X.mg x = some (.ref C)) (ha : PA X (e :: es) ta)
    (hdb : (x == ("__debug__" : Str)) = false := by decide) (he : starEach (e :: es) X.env = (false, eval e X.env) :: starEach es X.env := by rfl) (hpl : (backTo pos (starEach es X.env)).any (·.1) = false := by rfl) :
    PE X (.Call (.Name x p) (e :: es) [] pos) (tVO C sp ta) := by
  refine ⟨fun pins s σ H Q I h => ?_⟩
  obtain ⟨nm, q, N, bs, bm, sn, sub, ab, col, dd, k0, k1, k2, k3, k5, hC, hbm⟩ := T.cls
  refine wpAny_Call_Name_kw (ld_glob I hg hm ?_ hdb)
  refine PySem.W.callWith_K (h₀ := X.base) I.ok.mod.kin T.kC (thn (ha.run pos pins s σ H _ I h) fun us s1 ⟨vs, H1, I1, r1, hz, q1⟩ => ⟨I1.kIn, ?_⟩) he hpl
  show wpAny _ _ (call (.ref C) us) _ _ _
  obtain ⟨hp, g, dr, tk, os⟩ := s1
  have hsz : hp.objs.size ≤ hp.objs.size + 1 := Nat.le_succ _
  have hn : H1 (hp.objs.size + 1) = none := I1.hok.fresh hsz
  have hq := q1 (hp.objs.size + 1) hn
  have hget : ((hp.push (PySem.W.kdv_tup us)).push (PySem.HandSPX.excO C hp.objs.size)).get? (hp.objs.size + 1) = some (PySem.HandSPX.excO C hp.objs.size) := by heap_get
  have I2 : L2.Inv X pins σ (upd H1 (hp.objs.size + 1) (exo (hp.objs.size + 1) C none)) ⟨(hp.push (PySem.W.kdv_tup us)).push (PySem.HandSPX.excO C hp.objs.size), g, dr, tk, os⟩ :=
    I1.laid (t' := tk) (a := hp.objs.size + 1) (h' := (hp.push (PySem.W.kdv_tup us)).push (PySem.HandSPX.excO C hp.objs.size)) (fun b o z => Heap.get?_push_of_some _ (Heap.get?_push_of_some _ z)) hsz (exo_ok hget)
  have r2 : Vals (V.ref (hp.objs.size + 1) :: vs) (Value.ref (hp.objs.size + 1) :: us) := .cons rfl r1
  have hl : (Value.ref (hp.objs.size + 1) :: us ++ []).length = ps.length := by
    rw [List.append_nil, ← r2.length]
    exact F1.len _ _ _ _ hq
  have hbs := hb _ (Value.ref (hp.objs.size + 1) :: us) I2.kIn hl
  rw [List.append_nil] at hbs
  refine wpAny_call (PySem.HandSPX.call_own PySem.F.excBase_ValueError (fun Y => PySem.HandSPX.refsVE_contains Y bm hbm) (I1.kIn _ _ hC) (PySem.W.looks_findIn I1.kIn iC) (fun self => PySem.W.bind_fn I1.kIn self tI) (by rw [← Paired.length r1, sizeLine_eq]; omega)
    (codeAny_mono (F1.run _ X.stack _ _ ⟨Value.ref (hp.objs.size + 1) :: us, []⟩ (Value.ref (hp.objs.size + 1) :: us) _ _ (fun _ _ _ => False) (hr.make C us []) (I2.env0.make C us []) hbs r2 hq) fun r s' hq' => ?_))
  cases r with
  | error er => exact hq'.elim
  | ok fl =>
    cases fl with
    | ret u =>
      obtain ⟨v, H2, I3, rv, ev, d, fs, ea, ed, nd, q2⟩ := I2.after hq'
      subst ev
      refine ⟨rv, ?_⟩
      obtain ⟨t1, he1⟩ := exo_at I3.hok ea
      obtain ⟨mA, hns, rel⟩ := exd_at I3.hok ed
      have J1 := Inv.retell (u := .xd fs) I3 ed trivial ⟨mA, hns, rel⟩
      have ea' : upd H2 d (.xd fs) (hp.objs.size + 1) = some (exo (hp.objs.size + 1) C (some d)) := by rw [upd_ne (Ne.symm nd)]; exact ea
      have J2 := Inv.retell (u := ExV C (some d) (hp.objs.size + 1)) J1 ea' trivial (exV_ok he1 ⟨rfl, rfl⟩ rfl)
      exact ⟨.ref (hp.objs.size + 1), _, J2, rfl, q2⟩
    | next => exact hq'.elim
    | brk => exact hq'.elim
    | cont => exact hq'.elim
/-! ### X(e), X's own __init__: X's base's, then self.at = its argument -/
def spAt (C : Addr) : Sp := fun vs H Q _ => ∃ (a : Addr) (y : V), vs = [.ref a, y] ∧ H a = some (exo a C none) ∧ ∀ dx, H dx = none → dx ≠ a → Q .non (upd (upd H dx (exd dx [("at", y)])) a (exo a C (some dx)))
def tIni (K : PySem.W.Frag) (z : Str) : TS := fun D σ H => tVeI K (tCons (tVar 0) (tCons (tC (.str z)) tNil)) σ H fun _ H1 => tOst K "at" (tVar 0) (tVar 1) D σ H1
theorem pure_ini {K : PySem.W.Frag} {C : Addr} (z : Str) (T : OexC K C) (no : PySem.W.findIn K (.ref C) "at" = some none) (vs : List V) (H : Hp) (Q : VK) (E : XK) (h : spAt C vs H Q E) :
    tIni K z { nx := fun _ H' => Q .non H', rt := Q } (L2.start ["self", "at"] vs) H := by
  obtain ⟨a, y, rfl, ha, q⟩ := h
  exact ⟨_, rfl, a, C, _, rfl, by simp, T, ha, _, rfl, _, rfl, a, C, rfl, T, no, .inl ⟨ha, q⟩⟩
theorem len_ini {C : Addr} (vs : List V) (H : Hp) (Q : VK) (E : XK) (h : spAt C vs H Q E) : vs.length = (["self", "at"] : List Str).length := by
  obtain ⟨_, _, rfl, _⟩ := h
  rfl
@[simp] def gMkF (n f : Str) (ge : GE) : GE := fun ρ h Q => ge ρ h fun d h1 => ∀ a, h1 a = none → Q (.ref a) (mput h1 a (.exc n [(f, d)]))
theorem heap_end {H : Hp} {a dx : Addr} {o1 o2 o3 o4 o5 : HO} (ne : dx ≠ a) : upd (upd (upd (upd (upd H a o1) dx o2) a o3) dx o4) a o5 = upd (upd H dx o4) a o5 := by
  funext b
  unfold upd
  by_cases h1 : b = a
  · simp [h1]
  · by_cases h2 : b = dx
    · simp [h1, h2]
    · simp [h1, h2]
theorem e_mkF {fI : Addr} {k : Nat} {fd : FuncData} (T : OexC X.K C) (hc : clsAt X.K x C) (iC : PySem.W.findIn X.K (.ref C) "__init__" = some (some (.ref fI))) (tI : PySem.W.typeIn X.K (.ref fI) = some (.type "function"))
    (F1 : FnOk X.prog X.w X.K X.mg X.base CX0 k fI fd ["self", "at"] (spAt C)) (hr : Room (k + 1) X.A) (hb : Binds X.K fd ["self", "at"] []) (hg : Gl X x) (hm : X.mg x = some (.ref C)) (he : E3 X e ge)
    (hdb : (x == ("__debug__" : Str)) = false := by decide) (hs : starEach [e] X.env = (false, eval e X.env) :: starEach [] X.env := by rfl) (hpl : (backTo pos (starEach [] X.env)).any (·.1) = false := by rfl) :
    E3 X (.Call (.Name x p) [e] [] pos) (gMkF x "at" ge) := by
  refine PEimp (pe_oexV (p := p) T iC tI F1 hr hb hg hm (a_cons he a_nil hs) hdb hs hpl) fun σ H Q ⟨ρ, w, Q3, eH, gd, h, out⟩ => ?_
  subst eH
  refine ⟨ρ, w, fun ds h1 => match ds with | [d] => ∀ a, h1 a = none → Q3 (.ref a) (mput h1 a (.exc x [("at", d)])) | _ => False, rfl, gd, h, fun ds w1 vs q1 r1 e1 p1 => ?_⟩
  match ds, q1, p1 with
  | [d], q1, .cons rv .nil =>
    rename_i v
    refine ⟨by simp, fun a ha => ⟨a, v, rfl, upd_same, fun dx hdx hne => ?_⟩⟩
    rw [upd_ne hne] at hdx
    refine ⟨rfl, dx, [("at", v)], upd_same, by rw [upd_ne hne, upd_same], hne, ?_⟩
    rw [heap_end hne]
    obtain ⟨r2, e2⟩ := new_excF (f := "at") r1 hc ha hdx hne rv
    exact out (.ref a) _ _ (q1 a (r1.hnone ha).2) r2 (e1.trans e2) (.ref a)
end
end G3

namespace G3
open PySem PySem.Spec PyProof.Rows L2
section
variable {X : Cx}
/-! ### truths counted, the first place of a truth -/
def mCountB : DM := fun d ds h Q => ∃ (bs : List Bool) (b : Bool), ds = [.bl b] ∧ lstOf h d = some (bs.map Dv.bl) ∧ Q (.int ((bs.count b : Nat) : Int)) h
def mIndexB : DM := fun d ds h Q => ∃ (bs : List Bool) (b : Bool) (j : Nat), ds = [.bl b] ∧ lstOf h d = some (bs.map Dv.bl) ∧ bs[j]? = some b ∧ (∀ m, m < j → bs[m]? ≠ some b) ∧ Q (.int (j : Int)) h
theorem bool_vals : ∀ {bs : List Bool} {its : List Value}, Vals (bs.map V.bl) its → its = bs.map Value.bool
  | [], _, h => by cases h; rfl
  | b :: bs, _, h => by
    cases h with
    | cons a t =>
      rw [bool_vals t]
      rename_i u us
      cases (show u = Value.bool b from a)
      rfl
def isTrueV (b : Bool) : Value → Bool
  | .bool c => c == b
  | _ => false
theorem m_countB : M3 X "list.count" mCountB := by
  intro pins s σ H x xs v us Q I rx rs h
  obtain ⟨d, ds, w, Q3, e, r, p, pa, ⟨bs, b, rfl, hs, q⟩, out⟩ := h
  subst e
  obtain ⟨t, rfl, pt⟩ := pa.one
  cases pt
  obtain ⟨a, zs, rfl, sq, ra⟩ := lstOf_at r p hs
  rw [bls_of ra] at sq
  cases (show v = Value.ref a from rx)
  obtain ⟨u, rfl, ru⟩ := rs.one
  cases (show u = Value.bool b from ru)
  obtain ⟨its, rv, ⟨⟨cls, dd, data, sl⟩, n, ho, hc, hdn, hd⟩, hlen⟩ := I.list sq
  simp only at hc hd
  subst hc hd
  have hi := bool_vals rv
  subst hi
  have cnt : (bs.map Value.bool).toArray.toList.countP (isTrueV b) = bs.count b := by
    show List.countP (isTrueV b) (bs.map Value.bool) = _
    rw [List.countP_map]
    rfl
  refine call_meets PySem.F.slot_list_count ⟨_, ho, rfl⟩ PySem.F.entry_list_count (PySem.F.args_list_count_2 _ _)
    (SeqAt.list_countAt a (bs.map Value.bool).toArray n dd sl (.bool b) (isTrueV b)) ⟨ho, fun y hy => ?_, ?_⟩
  · have hy' : y ∈ bs.map Value.bool := by simpa using hy
    obtain ⟨c, _, rfl⟩ := List.mem_map.mp hy'
    exact SeqAt.EqAt.bool_bool c b
  · refine ⟨.int ((bs.count b : Nat) : Int), w.H, I.tok _, ⟨s.toks, ?_⟩, out _ w _ q r (Ext.refl w) (.int _)⟩
    rw [cnt]
theorem m_indexB : M3 X "list.index" mIndexB := by
  intro pins s σ H x xs v us Q I rx rs h
  obtain ⟨d, ds, w, Q3, e, r, p, pa, ⟨bs, b, j, rfl, hs, hj, hno, q⟩, out⟩ := h
  subst e
  obtain ⟨t, rfl, pt⟩ := pa.one
  cases pt
  obtain ⟨a, zs, rfl, sq, ra⟩ := lstOf_at r p hs
  rw [bls_of ra] at sq
  refine mt_index pins s σ w.H _ _ v us Q I rx rs ⟨a, bs.map V.bl, .bl b, j, .bl b, rfl, rfl, sq, rfl, ?_, by rw [List.getElem?_map, hj]; rfl, by cases b <;> rfl, fun m z hm hz => ?_, out _ w _ q r (Ext.refl w) (.int _)⟩
  · rw [List.all_map]
    exact List.all_eq_true.mpr fun _ _ => rfl
  · rw [List.getElem?_map] at hz
    cases hb : bs[m]? with
    | none => rw [hb] at hz; cases hz
    | some c =>
      rw [hb] at hz
      cases hz
      have ne := hno m hm
      rw [hb] at ne
      cases b <;> cases c <;> first | rfl | exact absurd rfl ne
/-! ### xs + ys, to be changed -/
@[simp] def rAddM : D2 := fun a b h Q => ∃ xs ys, lstOf h a = some xs ∧ lstOf h b = some ys ∧ xs.length + ys.length ≤ sizeLine ∧ ∀ p, h p = none → Q (.ref p) (mput h p (.lst (xs ++ ys)))
theorem o_addM : OpR X (binaryOp .Add) (lo2 X.K rAddM) := by
  intro pins s σ H x y v u Q I rx ry h
  obtain ⟨a, b, w, Q3, e, r, pa, pb, ⟨ds, es, h1, h2, hz, q⟩, out⟩ := h
  subst e
  obtain ⟨p, xs, rfl, sq, ra⟩ := lstOf_at r pa h1
  obtain ⟨p2, ys, rfl, sq2, rb⟩ := lstOf_at r pb h2
  cases rx
  cases ry
  obtain ⟨its, rv, ⟨⟨c1, d1, t1, sl1⟩, n1, ho1, hc1, hd1, ht1⟩, _⟩ := I.list sq
  obtain ⟨its2, rv2, ⟨⟨c2, d2, t2, sl2⟩, n2, ho2, hc2, hd2, ht2⟩, _⟩ := I.list sq2
  simp only at hc1 ht1 hc2 ht2
  subst hc1 ht1 hc2 ht2
  have z1 := ra.length
  have z2 := rb.length
  have z3 := rv.length
  have z4 := rv2.length
  refine concat_meets ⟨_, ho1, rfl⟩ ⟨_, ho2, rfl⟩ noFill_list_add seq_list_add PySem.F.slot_list_add PySem.F.entry_list_add (PySem.F.args_list_add_2 _ _)
    (PyProof.Rows.list_addW p p2 its.toArray its2.toArray n1 n2 d1 d2 sl1 sl2 (by simp only [List.size_toArray]; omega)) ⟨ho1, ho2, ?_⟩
  have ea : its.toArray ++ its2.toArray = (its ++ its2).toArray := by simp
  rw [ea]
  have rr : Vals (xs ++ ys) (its ++ its2) := rv.append rv2
  have np := I.hok.fresh (Nat.le_refl _)
  obtain ⟨r2, e2⟩ := put_lst (p := s.heap.objs.size) r (ra.append rb) (.inl np)
  refine ⟨.ref s.heap.objs.size, _, I.laid (t' := s.toks) (o := .lst (xs ++ ys)) (fun b ob z => Heap.get?_push_of_some _ z) (Nat.le_refl _) ⟨by rw [List.length_append]; omega, _, _, rr, Heap.get?_push_size _ rfl⟩, rfl, ?_⟩
  exact out.go r2 e2 (.ref _) (q _ (r.hnone np).2)
end
end G3

namespace G3
open PySem PyProof.Rows L2

/-! ### exceptions on their way -/
def Fld (K : PySem.W.Frag) (w : Wd) (d : Option Addr) (fs : List (Str × Dv)) : Prop := (d = none ∧ fs = []) ∨ ∃ dd vs, d = some dd ∧ w.h dd = none ∧ w.G dd = some (.xd vs) ∧ RpF K w fs vs
theorem Fld.ext {K : PySem.W.Frag} {w v : Wd} {d : Option Addr} {fs : List (Str × Dv)} (x : Fld K w d fs) (e : Ext w v) : Fld K v d fs := by
  rcases x with x | ⟨dd, vs, a, b, c, r⟩
  · exact .inl x
  · obtain ⟨z1, z2⟩ := e.fz dd _ b c
    exact .inr ⟨dd, vs, a, z2, z1, r.ext e⟩
def OutK (K : PySem.W.Frag) (w : Wd) (Ex : Kx) (E : XK) : Prop := ∀ (n : Str) (fs : List (Str × Dv)) (w' : Wd) (C : Addr) (d : Option Addr), Ex n fs w'.h → Rel K w' → Ext w w' → clsAt K n C → Fld K w' d fs → E (.ref C) d w'.H
theorem OutK.ext {K : PySem.W.Frag} {w w1 : Wd} {Ex : Kx} {E : XK} (o : OutK K w Ex E) (e : Ext w w1) : OutK K w1 Ex E := fun n fs w' C d a b c f g => o n fs w' C d a b (e.trans c) f g
abbrev Sp4 := List Dv → Mh → Kd → Kx → Prop
def upX (K : PySem.W.Frag) (sp : Sp4) : List V → Hp → VK → XK → Prop := fun vs H Q E => ∃ ds w Q3 E3, w.H = H ∧ Rel K w ∧ RpAll K w ds vs ∧ sp ds w.h Q3 E3 ∧ Out K w Q3 Q ∧ OutK K w E3 E
/-- a def that may raise keeps its promise -/
structure FnX (P : Program) (w : World) (K : PySem.W.Frag) (mg : Str → Option Value) (base : Heap) (k : Nat) (f : Addr) (fd : FuncData) (ps : List Str) (sp : Sp4) : Prop where
  len : ∀ ds h Q E, sp ds h Q E → ds.length = ps.length
  run : ∀ (A : Around) (outer : List Env) (s : Shared) (H : Hp) (args : Args) (us : List Value) (vs : List V) (Q : VK) (E : XK), Room k A → A.guards = some [] → Env0 P w K mg base A outer s H → BindsTo s fd args (ps.zip us) → Vals vs us → upX K sp vs H Q E →
    codeAny (model P w) A (.call (.ref f) args) (CR (L2.CX P w) outer P w H s Q E) s
theorem FnX.mono {P : Program} {w : World} {K : PySem.W.Frag} {mg : Str → Option Value} {base : Heap} {j k : Nat} {f : Addr} {fd : FuncData} {ps : List Str} {sp : Sp4} (F : FnX P w K mg base j f fd ps sp) (h : j ≤ k) : FnX P w K mg base k f fd ps sp :=
  ⟨F.len, fun A outer s H args us vs Q E hr => F.run A outer s H args us vs Q E (hr.mono h)⟩
abbrev GEX := Sl → Mh → Kd → Kx → Prop
def loX (K : PySem.W.Frag) (W : WX) (g : GEX) : TE := fun σ H Q => ∃ ρ w Q3 E3, w.H = H ∧ Good K ρ w σ ∧ g ρ w.h Q3 E3 ∧ Out K w Q3 Q ∧ OutK K w E3 (fun cls d H' => W cls d σ H')
def loSX (K : PySem.W.Frag) (E : XK) (g : GS) : TS := fun D σ H => ∃ ρ w En, w.H = H ∧ Good K ρ w σ ∧ g En ρ w.h ∧ OutS K w En D ∧ OutK K w En.xc E
def EX (X : Cx) (W : WX) (e : Expr) (g : GEX) : Prop := PE X e (loX X.K W g)
def SX (X : Cx) (E : XK) (st : Stmt) (g : GS) : Prop := PS X st (loSX X.K E g)
def BX (X : Cx) (E : XK) (st : List Stmt) (g : GS) : Prop := PSs X st (loSX X.K E g)
abbrev WF (E : XK) : WX := fun cls d _ H => E cls d H
section
variable {X : Cx} {E : XK} {W : WX} {st : Stmt} {rest : List Stmt} {g g1 g2 : GS} {pos : Pos}
/-! ### statements -/
theorem sx_of (h : S3 X st g) : SX X E st g := PSimp h fun D σ H ⟨ρ, w, En, e, gd, q, out, _⟩ => ⟨ρ, w, En, e, gd, q, out⟩
theorem bx_nil : BX X E [] gNext := PSsimp b_nil fun D σ H ⟨ρ, w, En, e, gd, q, out, _⟩ => ⟨ρ, w, En, e, gd, q, out⟩
theorem bx_one (h : SX X E st g) : BX X E [st] g := pss_one h
theorem bx_cons (h1 : SX X E st g1) (h2 : BX X E rest g2) : BX X E (st :: rest) (gSeq g1 g2) := PSsimp (pss_cons h1 h2) fun D σ H ⟨ρ, w, En, e, gd, q, out, ox⟩ => by
  subst e
  exact ⟨ρ, w, { En with nx := g2 En }, rfl, gd, q, ⟨fun ρ1 w1 σ1 q1 gd1 e1 => ⟨ρ1, w1, En, rfl, gd1, q1, out.ext e1, ox.ext e1⟩, out.rt, out.bk, out.ct⟩, ox⟩
theorem sx_if {c : Expr} {a b : List Stmt} {gc : GT} (hc : T3 X c gc) (ha : BX X E a g1) (hb : BX X E b g2) : SX X E (.If c a b pos) (gIfS gc g1 g2) := PSimp (ps_if hc ha hb) fun D σ H ⟨ρ, w, En, e, gd, q, out, ox⟩ => by
  subst e
  refine ⟨ρ, w, _, rfl, gd, q, fun k w1 q1 r1 e1 => ?_⟩
  cases k with
  | true => exact ⟨ρ, w1, En, rfl, gd.ext r1 e1, q1, out.ext e1, ox.ext e1⟩
  | false => exact ⟨ρ, w1, En, rfl, gd.ext r1 e1, q1, out.ext e1, ox.ext e1⟩
theorem sx_for {tg iter : Expr} {body : List Stmt} {gi : GI} {vs : List Nat} {gg : GG} {gb : GS} (hp : PassesOwn (model X.prog X.w) X.A X.env X.xe) (hc : X.calm = true) (hi : I3 X tg iter gi) (hg : G3t X tg vs gg) (hb : BX X E body gb)
    (hs : ∀ x, foldedSetIterable iter X.env x = pure x := by intro _; rfl) : SX X E (.For tg iter body [] pos) (gFor gi gg gb) := PSimp (ps_for hp hc hi hg hb hs) fun D σ H ⟨ρ, w, En, e, gd, q, out, ox⟩ => by
  subst e
  refine ⟨ρ, w, _, rfl, gd, q, fun ds w1 J q1 r1 e1 ok => ?_⟩
  refine ⟨fun i m σ' H' => ∃ ρ' w', w'.H = H' ∧ m = ds.length - i ∧ i ≤ ds.length ∧ Good X.K ρ' w' σ' ∧ Ext w1 w' ∧ wFor gg gb (ds.drop i) En ρ' w'.h, ⟨ds.length, ρ, w1, rfl, rfl, Nat.zero_le _, gd.ext r1 e1, Ext.refl w1, q1⟩, fun i m σ' H' hW => ?_⟩
  obtain ⟨ρ', w', eH, hm, hl, gd', e', q'⟩ := hW
  subst eH hm
  have out' := out.ext (e1.trans e')
  by_cases hi : i < ds.length
  · have hd : ds.drop i = ds[i] :: ds.drop (i + 1) := List.drop_eq_getElem_cons hi
    rw [hd] at q'
    refine .inr ⟨ok.go i w' e'.w gd'.rel hi, fun σ2 H2 => ∃ ρ2 w2, w2.H = H2 ∧ Good X.K ρ2 w2 σ2 ∧ Ext w1 w2 ∧ wFor gg gb (ds.drop (i + 1)) En ρ2 w2.h, fun σ2 H2 ⟨ρ2, w2, eH, g2, e2, q2⟩ => ⟨ds.length - (i + 1), by omega, ρ2, w2, eH, rfl, hi, g2, e2, q2⟩, fun x H'' hy => ?_⟩
    obtain ⟨w2, eH, hh, r2, e2, p2⟩ := ok.yld i w' x H'' e'.w gd'.rel hy ds[i] (List.getElem?_eq_getElem hi)
    subst eH
    refine ⟨ds[i], ρ', w2, fun ρ1 h1 => gb { En with nx := wFor gg gb (ds.drop (i + 1)) En, ct := wFor gg gb (ds.drop (i + 1)) En, bk := En.nx } ρ1 h1, rfl, gd'.ext r2 e2, p2, by rw [hh]; exact q', fun ρ3 w3 σ3 q3 g3 e3 _ =>
      ⟨ρ3, w3, { En with nx := wFor gg gb (ds.drop (i + 1)) En, ct := wFor gg gb (ds.drop (i + 1)) En, bk := En.nx }, rfl, g3, q3, ?_, (ox.ext ((e1.trans e').trans e2)).ext e3⟩⟩
    have o3 := (out'.ext e2).ext e3
    exact ⟨fun ρ4 w4 σ4 q4 g4 e4 => ⟨ρ4, w4, rfl, g4, ((e'.trans e2).trans e3).trans e4, q4⟩, o3.rt, fun ρ4 w4 σ4 q4 g4 e4 => o3.nx ρ4 w4 σ4 q4 g4 e4, fun ρ4 w4 σ4 q4 g4 e4 => ⟨ρ4, w4, rfl, g4, ((e'.trans e2).trans e3).trans e4, q4⟩⟩
  · have e : i = ds.length := by omega
    subst e
    rw [List.drop_length] at q'
    exact .inl ⟨ok.stop w' e'.w gd'.rel, out'.nx ρ' w' σ' q' gd' (Ext.refl w')⟩
end
end G3

namespace G3
open PySem PyProof.Rows L2

/-! ### a def that may raise, by its body -/
section
variable {P : Program} {w : World} {K : PySem.W.Frag} {mg : Str → Option Value} {base : Heap} {j k : Nat} {f : Addr} {fd : FuncData} {ps : List Str} {sp : Sp4}
theorem fn_x {x qual : Str} {st : Stmt} {N : List Str} (F : Fun K x qual st f fd) (S : FnScope N ps (defScope st)) (len : ∀ ds h Q E, sp ds h Q E → ds.length = ps.length) {g : GS}
    (hb : ∀ (cdv : Value) (A : Around) (outer : List Env) (s : Shared) (H : Hp) (E : XK), Room k (A.deeper (envOfC qual (defScope st) s.heap.objs.size f cdv)) → A.guards = some [] →
      BX (cxOf (L2.CX P w) P w K mg base N qual (defScope st) f cdv A outer s H E) E (defBody st) g)
    (hg : ∀ ds h Q E, sp ds h Q E → g { nx := fun _ h' => Q .non h', rt := Q, xc := E } (startD N ds) h) : FnX P w K mg base (k + 1) f fd ps sp := by
  obtain ⟨oc, od, kV, doc, pm, an, cdv, ct, osl, rfl, lk, hcd⟩ := F.ex
  refine ⟨len, fun A outer s H args us vs Q E hr hgd e0 hbd hv ⟨ds, v, Q3, E3, eH, rl, ra, hsp, out, ox⟩ => ?_⟩
  subst eH
  have hl : vs.length = ps.length := by rw [lenD ra]; exact len _ _ _ _ hsp
  have KX : K.In s.heap := e0.mod.kin.keeps fun b o e => (e0.bs b o e).1
  have kinds : ∀ y ∈ ps.zip us, (defScope st).names.lookup y.1 = some .local ∨ ((defScope st).names.lookup y.1 = some .cell ∧ ((cellsFrom (s.heap.objs.size + 1) (defScope st).names []).lookup y.1).isSome = true) := by
    rintro ⟨n, val⟩ hy
    rcases S.par n (List.of_mem_zip hy).1 with z | z
    · exact .inl z
    · exact .inr ⟨z, PySem.W.cellsFrom_some _ _ _ (.inl z)⟩
  refine codeAny_call_function hr.depth (KX _ _ lk) rfl S.co S.gen rfl (PySem.W.codeRec_of KX hcd) (hbd _ _ _ _ (wpAny_newFunctionEnv_cells S.kind kinds fun env he s1 xc => ?_))
  subst he
  refine ⟨(e0.mod.nolimit.keeps fun b o e => (e0.bs b o e).1).keeps xc.toInCall.keep, codeAny_func ?_⟩
  have I := inv_start (CX := L2.CX P w) (E := E) S hr.hd e0 hl hv xc
  have body := (hb cdv A outer s v.H E (hr.deeper _) hgd).run [] s1 (L2.start N vs) v.H { nx := fun _ H' => Q .non H', rt := Q } I
    ⟨startD N ds, v, { nx := fun _ h' => Q3 .non h', rt := Q3, xc := E3 }, rfl, good_start N rl ra, hg _ _ _ _ hsp, ⟨fun ρ w' σ q gd e => out.go gd.rel e .non q, out, fun _ _ _ q _ _ => q.elim, fun _ _ _ q _ _ => q.elim⟩, ox⟩
  refine wpAny_mono body (fun fl s' hs => ?_) fun e s' hs => hs
  cases fl with
  | ret u =>
    obtain ⟨r, σ', H', J, rr, q⟩ := hs
    exact ⟨r, H', J.os, J.bare, J.base, J.hok, rr, q⟩
  | next =>
    obtain ⟨σ', H', J, q⟩ := hs
    exact ⟨V.non, H', J.os, J.bare, J.base, J.hok, rfl, q⟩
  | brk =>
    obtain ⟨_, _, _, q⟩ := hs
    exact q.elim
  | cont =>
    obtain ⟨_, _, _, q⟩ := hs
    exact q.elim
end
section
variable {X : Cx} {E : XK} {W : WX} {k : Nat} {f : Addr} {fd : FuncData} {ps : List Str} {sp : Sp4} {x : Str} {p pos : Pos} {e : Expr} {es : List Expr} {gs : GA} {ge : GE} {gx ga gb : GEX}
/-! ### raise X(e) -/
@[simp] def gRaiseF (n f : Str) (ge : GE) : GS := fun En ρ h => ge ρ h fun d h1 => En.xc n [(f, d)] h1
theorem heap_gone {H : Hp} {a dx : Addr} {o1 o2 o3 o4 : HO} (ne : dx ≠ a) (ha : H a = none) : upd (del (upd (upd (upd H a o1) dx o2) a o3) a) dx o4 = upd H dx o4 := by
  funext b
  unfold upd del
  by_cases h2 : b = dx
  · simp [h2]
  · by_cases h1 : b = a
    · subst h1
      simp [h2, ha]
    · simp [h1, h2]
theorem sx_raiseF {C fI : Addr} {fdI : FuncData} {pos' : Pos} (hc : X.calm = true) (tk : Takes X (WF E)) (T : OexC X.K C) (hcl : clsAt X.K x C) (iC : PySem.W.findIn X.K (.ref C) "__init__" = some (some (.ref fI))) (tI : PySem.W.typeIn X.K (.ref fI) = some (.type "function"))
    (F1 : FnOk X.prog X.w X.K X.mg X.base CX0 k fI fdI ["self", "at"] (spAt C)) (hr : Room (k + 1) X.A) (hb : Binds X.K fdI ["self", "at"] []) (hg : Gl X x) (hm : X.mg x = some (.ref C)) (he : E3 X e ge)
    (hdb : (x == ("__debug__" : Str)) = false := by decide) (hs : starEach [e] X.env = (false, eval e X.env) :: starEach [] X.env := by rfl) (hpl : (backTo pos (starEach [] X.env)).any (·.1) = false := by rfl) :
    SX X E (.Raise (some (.Call (.Name x p) [e] [] pos)) none pos') (gRaiseF x "at" ge) := by
  have mk := pmk_oex (p := p) (pos := pos) (dvs := []) (ds := []) T iC tI F1 hr hb .nil pass0 hg hm (a_cons he a_nil hs) hdb hs hpl
  refine PSimp (ps_raise (W := WF E) hc tk mk) fun D σ H ⟨ρ, w, En, eH, gd, q, out, ox⟩ => ?_
  subst eH
  refine ⟨ρ, w, fun ds h1 => match ds with | [d] => En.xc x [("at", d)] h1 | _ => False, rfl, gd, q, fun ds w1 vs q1 r1 e1 p1 => ?_⟩
  match ds, q1, p1 with
  | [d], q1, .cons rv .nil =>
    rename_i v
    refine ⟨by simp, fun a ha => ⟨a, v, rfl, upd_same, fun dx hdx hne => ?_⟩⟩
    rw [upd_ne hne] at hdx
    refine ⟨rfl, dx, [("at", v)], upd_same, by rw [upd_ne hne, upd_same], hdx, ?_⟩
    rw [heap_gone hne ha]
    obtain ⟨r2, e2⟩ := r1.newF hdx (.xd [("at", v)])
    exact ox x [("at", d)] ⟨w1.h, upd w1.G dx (.xd [("at", v)]), upd w1.H dx (.xd [("at", v)])⟩ C (some dx) q1 r2 (e1.trans e2) hcl (.inr ⟨dx, _, rfl, (r1.hnone hdx).2, upd_same, .cons ⟨rfl, rv.ext e2⟩ .nil⟩)
/-! ### calls that may raise -/
theorem run_x {pins : List (Addr × Obj)} {σ : L2.St} {H : Hp} {s : Shared} {Q : VK} {us : List Value} {vs : List V} (F : FnX X.prog X.w X.K X.mg X.base k f fd ps sp) (hr : Room k X.A) (hg : X.A.guards = some []) (hb : Binds X.K fd ps []) (tk : Takes X W) (I : L2.Inv X pins σ H s) (r : Vals vs us)
    (h : upX X.K sp vs H Q (fun cls d H' => W cls d σ H')) : wpAny (model X.prog X.w) X.A (call (.ref f) us) (EP X pins σ Q) X.xe s := by
  have hl : (us ++ []).length = ps.length := by
    obtain ⟨ds, w, Q3, E3, e1, rl, ra, hsp, out⟩ := h
    rw [List.append_nil, ← r.length, lenD ra]
    exact F.len _ _ _ _ hsp
  have hbs := hb s us I.kIn hl
  rw [List.append_nil] at hbs
  refine wpAny_call (codeAny_mono (F.run X.A X.stack s H ⟨us, []⟩ us vs Q _ hr hg I.env0 hbs r h) fun res s' hq => ?_)
  cases res with
  | error e => exact passAt tk σ pins H s e s' I hq
  | ok fl =>
    cases fl with
    | ret u => exact I.after hq
    | next => exact hq.elim
    | brk => exact hq.elim
    | cont => exact hq.elim
@[simp] def gFnX (sp : Sp4) (gs : GA) : GEX := fun ρ h Q Ex => gs ρ h fun ds h1 => sp ds h1 Q Ex
theorem ex_call (F : FnX X.prog X.w X.K X.mg X.base k f fd ps sp) (hr : Room k X.A) (hgd : X.A.guards = some []) (tk : Takes X W) (hg : Gl X x) (hm : X.mg x = some (.ref f)) (hk : PySem.W.keepIn X.K (.ref f) = true) (hb : Binds X.K fd ps []) (ha : A3 X (e :: es) gs) (hdb : (x == ("__debug__" : Str)) = false := by decide)
    (he : starEach (e :: es) X.env = (false, eval e X.env) :: starEach es X.env := by rfl) (hpl : (backTo pos (starEach es X.env)).any (·.1) = false := by rfl) : EX X W (.Call (.Name x p) (e :: es) [] pos) (gFnX sp gs) := by
  refine ⟨fun pins s σ H Q I ⟨ρ, w, Q3, E3, eH, gd, q, out, ox⟩ => ?_⟩
  subst eH
  refine wpAny_Call_Name_kw (ld_glob I hg hm ?_ hdb)
  have args := ha.run pos pins s σ w.H (fun vs H1 => upX X.K sp vs H1 Q (fun cls d H' => W cls d σ H')) I ⟨ρ, w, _, rfl, gd, q, fun ds w1 vs q1 r1 e1 p1 => ⟨ds, w1, Q3, E3, rfl, r1, p1, q1, out.ext e1, ox.ext e1⟩⟩
  exact PySem.W.callWith_K (h₀ := X.base) I.ok.mod.kin hk (thn args fun us s1 ⟨vs, H1, I1, r, q⟩ => ⟨I1.kIn, run_x F hr hgd hb tk I1 r q⟩) he hpl
/-- of a local name that holds a def -/
@[simp] def gCallL (i : Nat) (S : Str → Option Sp4) (gs : GA) : GEX := fun ρ h Q Ex => ∃ n sp, slot ρ i = some (.obj n) ∧ S n = some sp ∧ gs ρ h fun ds h1 => sp ds h1 Q Ex
def HeldX (P : Program) (w : World) (K : PySem.W.Frag) (mg : Str → Option Value) (base : Heap) (k : Nat) (S : Str → Option Sp4) : Prop :=
  ∀ n sp, S n = some sp → ∃ (f : Addr) (fd : FuncData) (ps : List Str), clsAt K n f ∧ FnX P w K mg base k f fd ps sp ∧ PySem.W.keepIn K (.ref f) = true ∧ Binds K fd ps []
theorem ex_callL {i : Nat} {S : Str → Option Sp4} (HS : HeldX X.prog X.w X.K X.mg X.base k S) (hr : Room k X.A) (hgd : X.A.guards = some []) (tk : Takes X W) (ha : A3 X (e :: es) gs) (hN : X.N[i]? = some x := by rfl) (hv : Vis X.env.scope x := by first | exact Or.inl rfl | exact Or.inr (Or.inl rfl) | exact Or.inr (Or.inr rfl))
    (hdb : (x == ("__debug__" : Str)) = false := by decide) (hcd : (x == ("__classdict__" : Str)) = false := by decide)
    (he : starEach (e :: es) X.env = (false, eval e X.env) :: starEach es X.env := by rfl) (hpl : (backTo pos (starEach es X.env)).any (·.1) = false := by rfl) : EX X W (.Call (.Name x p) (e :: es) [] pos) (gCallL i S gs) := by
  refine ⟨fun pins s σ H Q I ⟨ρ, w, Q3, E3, eH, gd, ⟨n, sp, hn, hS, q⟩, out, ox⟩ => ?_⟩
  subst eH
  obtain ⟨fv, fd, ps, hc, F, hk, hb⟩ := HS n sp hS
  obtain ⟨v, h1, h2⟩ := gd.at_ i _ (slot_get hn)
  have ev : v = .ref fv := by
    cases h2 with
    | obj hc' => rw [clsAt_one hc' hc]
  subst ev
  refine wpAny_Call_Name_kw (thn ((pe_var (pos := p) hN hv hdb hcd).run pins s σ w.H (fun v H1 => v = .ref fv ∧ H1 = w.H) I ⟨.ref fv, h1, rfl, rfl⟩) fun u s1 ⟨v, H1, I1, r1, q1⟩ => ?_)
  obtain ⟨rfl, rfl⟩ := q1
  cases r1
  have args := ha.run pos pins s1 σ w.H (fun vs H1 => upX X.K sp vs H1 Q (fun cls d H' => W cls d σ H')) I1 ⟨ρ, w, _, rfl, gd, q, fun ds w1 vs q1 r1 e1 p1 => ⟨ds, w1, Q3, E3, rfl, r1, p1, q1, out.ext e1, ox.ext e1⟩⟩
  exact PySem.W.callWith_K (h₀ := X.base) I.ok.mod.kin hk (thn args fun us s2 ⟨vs, H2, I2, r, q⟩ => ⟨I2.kIn, run_x F hr hgd hb tk I2 r q⟩) he hpl
@[simp] def gIfX (g : GT) (ga gb : GEX) : GEX := fun ρ h Q Ex => g ρ h fun k h1 => if k = true then ga ρ h1 Q Ex else gb ρ h1 Q Ex
theorem ex_if {c a b : Expr} {g : GT} (hc : T3 X c g) (ha : EX X W a ga) (hb : EX X W b gb) : EX X W (.IfExp c a b pos) (gIfX g ga gb) := PEimp (pe_ifExp hc ha hb) fun σ H Q ⟨ρ, w, Q3, E3, e, gd, q, out, ox⟩ => by
  subst e
  refine ⟨ρ, w, _, rfl, gd, q, fun d w1 q1 r1 e1 => ?_⟩
  cases d with
  | true => exact ⟨ρ, w1, Q3, E3, rfl, gd.ext r1 e1, q1, out.ext e1, ox.ext e1⟩
  | false => exact ⟨ρ, w1, Q3, E3, rfl, gd.ext r1 e1, q1, out.ext e1, ox.ext e1⟩
theorem ex_of (he : E3 X e ge) : EX X W e (fun ρ h Q _ => ge ρ h Q) := PEimp he fun σ H Q ⟨ρ, w, Q3, E3, e, gd, q, out, _⟩ => ⟨ρ, w, Q3, e, gd, q, out⟩
end
end G3

namespace G3
open PySem PySem.Spec PyProof.Rows L2

section
variable {X : Cx} {pins : List (Addr × Obj)} {σ : L2.St} {H : Hp} {s : Shared}
/-- a thing that stands already is told from now on -/
theorem Inv.track {a : Addr} {o : HO} (I : L2.Inv X pins σ H s) (na : H a = none) (n0 : X.s_0.heap.get? a = none) (nL : a ≠ X.env.locals) (nC : ∀ x c, X.env.cells.lookup x = some c → c ≠ a) (nP : ∀ p ∈ X.pn ++ pins, p.1 ≠ a) (new : ObjOk X.prog X.w (upd H a o) s.heap a o) :
    L2.Inv X pins σ (upd H a o) s := by
  have keepH : ∀ b u, H b = some u → upd H a o b = some u := fun b u e => by
    rw [upd_ne (fun z => by rw [z, na] at e; cases e)]
    exact e
  refine ⟨I.ok, I.os, I.bare, ⟨I.base.keep, I.base.slot, fun b u e n hx => ?_, I.base.there, fun b xs e => keepH _ _ (I.base.tups b xs e), fun b u v e => keepH _ _ (I.base.frzs b u v e), fun b ps e => ?_⟩, I.loc, I.cell, ?_, fun x c e => ?_, fun p hp => ?_, fun b u e => ?_, I.len⟩
  · rw [upd_ne (fun z => by rw [z, n0] at e; cases e)]
    exact I.base.free b u e n hx
  · obtain ⟨m, q⟩ := I.base.tbls b ps e
    exact ⟨m, keepH _ _ q⟩
  · rw [upd_ne (Ne.symm nL)]
    exact I.free
  · rw [upd_ne (nC x c e)]
    exact I.freeC x c e
  · obtain ⟨e, n, ne, nf, d⟩ := I.pin p hp
    exact ⟨e, by rw [upd_ne (nP p hp)]; exact n, ne, nf, d⟩
  · by_cases hb : b = a
    · subst hb
      rw [upd_same] at e
      cases e
      exact new
    · rw [upd_ne hb] at e
      exact (I.hok b u e).stay (fun c v _ q => q) (fun c q => keepH _ _ q) fun c xs q => keepH _ _ q
/-- what the clause 'except x as n' wishes; the exception is told behind it -/
def wKp (K : PySem.W.Frag) (c : Value) (i : Nat) (ts : Addr → TS) (D : Ends) : WX := fun cls d σ H =>
  ∃ C, cls = .ref C ∧ PySem.W.exmOne K cls c = some true ∧ ∀ a, H a = none → ts a { nx := fun σ' H' => H' a = none → D.nx (σ'.set i none) (upd H' a (ExV C d a)), rt := fun _ _ => False } (σ.set i (some (.ref a))) H
variable {x n : Str} {c : Value} {i : Nat} {body suite : List Stmt} {b₀ : Stmt} {np pos pos' : Pos} {tb : WX → TS} {ts : Addr → TS}
theorem ps_tryK (hs : X.stack = X.env :: X.outer) (hf : X.env.frame = some X.env.locals) (hex : X.ex = []) (hN : X.N.Nodup) (hi : X.N[i]? = some n) (hln : X.env.kindOf n = some .local) (hc : Names X x c)
    (hb : ∀ (W : WX) (pn : List (Addr × Obj)) (xe : Value → Shared → Prop), Takes (X.tr pn xe) W → PSs (X.tr pn xe) body (tb W))
    (hsu : ∀ (a : Addr) (oe : Obj) (pn : List (Addr × Obj)), PSs (X.suite a ((a, oe) :: pn)) (b₀ :: suite) (ts a)) :
    PS X (.Try body [.ExceptHandler (some (.Name x np)) (some n) (b₀ :: suite) pos'] [] [] pos) (fun D σ H => tb (wKp X.K c i ts D) D σ H) := by
  refine ⟨fun pins s σ H D I h => ?_⟩
  have ok := I.ok
  have hfr : X.A.frames = some (X.env :: X.outer) := by rw [ok.frames, hs]
  refine wpAny_Try_except ?_
  refine wpAny_mono ((hb (wKp X.K c i ts D) (X.pn ++ pins) (fun e s₁ => wpAny (model X.prog X.w) X.A (noteFrame e X.env) (fun _ s₂ => wpAny (model X.prog X.w) X.A (setFlight e none) (fun _ s₃ =>
    wpAny (model X.prog X.w) X.A (handleBy e X.env [.ExceptHandler (some (.Name x np)) (some n) (b₀ :: suite) pos']) (SP X pins D) X.xe s₃) X.xe s₂) X.xe s₁) (fun u s' xx => ?_)).run [] s σ H D (I.toTry _) h) (fun f s1 hsp => ?_) (fun e s1 he => he)
  · obtain ⟨a, B, sI, pins', σ', H', cls, d, rfl, J', nb, up, sky, na, os, ag, C, rfl, hb1, hyes⟩ := xx
    have J : L2.Inv X pins σ' H' sI := J'.ofTry ok
    have sky' : Sky B (X.env :: X.outer) a (Zc (.ref C) d) X.env.locals s'.heap := by rw [← hs]; exact sky
    show wpAny (model X.prog X.w) X.A (noteFrame (.ref a) X.env) _ _ _
    refine Sky.land Zc.steady hfr hf sky' fun h3 fl3 up3 => ?_
    have J3 : L2.Inv X pins σ' H' { s' with heap := h3 } := J.landed nb fl3.1 (up.trans up3) os ag
    obtain ⟨oe3, vs3, he3, hz3, hd3⟩ := fl3.there
    have notFr : ∀ {h : Heap} {o : Obj} {vs : Array Value}, h.FunFrames B (X.env :: X.outer) → h.get? a = some o → o.data = .fields vs → a ∉ frs (X.env :: X.outer) := fun {h o vs} ff e dd hm => by
      obtain ⟨_, o', e', hnf⟩ := ff.mem hm
      rw [e] at e'; cases e'
      exact hnf _ dd
    have nfr := notFr fl3.2.2.1 he3 hd3
    have nL : a ≠ X.env.locals := fun z => nfr (List.mem_filterMap.mpr ⟨X.env, List.mem_cons_self, by rw [hf, z]⟩)
    have nF : a ∉ X.fs := fun hm => by
      obtain ⟨e, he, q⟩ := List.mem_filterMap.mp hm
      exact nfr (List.mem_filterMap.mpr ⟨e, List.mem_cons_of_mem _ he, q⟩)
    -- the exception is younger than the def's entry
    have nI : sI.heap.get? a = none := by
      cases q : sI.heap.get? a with
      | none => rfl
      | some u =>
        have z := nb a u q (by rw [hs]; exact nfr)
        rw [fl3.2.1] at z; cases z
    have n0 : X.s_0.heap.get? a = none := by
      cases q : X.s_0.heap.get? a with
      | none => rfl
      | some u =>
        obtain ⟨o', z⟩ := J.base.there a u q (by rw [hex]; exact fun z => nomatch z)
        rw [nI] at z; cases z
    have nC : ∀ x c, X.env.cells.lookup x = some c → c ≠ a := fun x c e z => by
      obtain ⟨v, o, ho, _⟩ := J.cell x c e
      rw [z, nI] at ho; cases ho
    have nP : ∀ p ∈ X.pn ++ pins, p.1 ≠ a := fun p hp z => by
      have q := (J.pin p hp).1
      rw [z, nI] at q; cases q
    have S3 := J3.suite he3 hd3 na nL nF
    refine wpAny_handleBy_cons (codeAny_handlers_test ?_) (by intro q; cases q)
    have LT : PySem.W.Looks (model X.prog X.w) h3 (typeOf (.ref a)) (.ref C) := fun A Q E s k q => wpAny_typeOf_ref (k _ _ he3) (by rw [hz3.1]; exact q)
    have LM := PySem.W.exm_one (M := model X.prog X.w) (J3.kIn) LT hb1
    have test : ∀ {Q : Value → Shared → Prop} {E : Value → Shared → Prop}, Q c { s' with heap := h3 } → wpAny (model X.prog X.w) (X.A.mark (some (.ref a))) (eval (.Name x np) X.env) Q E { s' with heap := h3 } := fun {Q E} q => by
      obtain ⟨hg, hdbg, hm | ⟨hm, hv, hnn⟩⟩ := hc
      · exact ld_glob (X := X.suite a ((a, oe3) :: (X.pn ++ pins))) S3 hg hm q hdbg
      · exact ld_blt (X := X.suite a ((a, oe3) :: (X.pn ++ pins))) S3 hg hm hv q hnn hdbg
    refine test (LM.here ?_)
    refine codeAny_handlers_suite_as ?_
    refine HandSPX.lands_againZ fl3 fun h4 fl4 up4 => ?_
    have J4 : L2.Inv X pins σ' H' { s' with heap := h4 } := J.landed nb fl4.1 ((up.trans up3).trans up4) os ag
    obtain ⟨oe4, vs4, he4, hz4, hd4⟩ := fl4.there
    have S4 := J4.suite he4 hd4 na nL nF
    refine store_ok (X := X.suite a ((a, oe4) :: (X.pn ++ pins))) (v := .ref a) S4 hN hi (.inl hln) rfl (fun s5 S5 => ?_) (.inr hln)
    refine wpAny_mono ((hsu a oe4 (X.pn ++ pins)).run [] s5 _ H' _ S5 (hyes a na)) (fun f s6 hsp => ?_) (fun _ _ z => False.elim z)
    cases f with
    | next =>
      obtain ⟨σ6, H6, S6, q6⟩ := hsp
      obtain ⟨g6, n6, _⟩ := S6.pin (a, oe4) (List.mem_append_left _ List.mem_cons_self)
      have T6 : L2.Inv X pins σ6 (upd H6 a (ExV C d a)) s6 := Inv.track (S6.unsuite ok) n6 n0 nL nC nP (exV_ok g6 hz4 hd4)
      exact gone_ok T6 hN hi hln fun s7 J7 => ⟨_, _, J7, q6 n6⟩
    | brk =>
      obtain ⟨_, _, _, z⟩ := hsp
      exact z.elim
    | cont =>
      obtain ⟨_, _, _, z⟩ := hsp
      exact z.elim
    | ret u =>
      obtain ⟨_, _, _, _, _, z⟩ := hsp
      exact z.elim
  · cases f with
    | next =>
      obtain ⟨σ', H', J', q⟩ := hsp
      exact wpAny_execs_nil ⟨σ', H', J'.ofTry ok, q⟩
    | brk =>
      obtain ⟨σ', H', J', q⟩ := hsp
      exact ⟨σ', H', J'.ofTry ok, q⟩
    | cont =>
      obtain ⟨σ', H', J', q⟩ := hsp
      exact ⟨σ', H', J'.ofTry ok, q⟩
    | ret u =>
      obtain ⟨v, σ', H', J', r, q⟩ := hsp
      exact ⟨v, σ', H', J'.ofTry ok, r, q⟩
/-! ### try: y = e / except m as n: suite, over trees -/
@[simp] def gTry (t : CTab) (m : Str) (i j : Nat) (gx : GEX) (gsu : GS) : GS := fun En ρ h => gx ρ h (fun d h1 => En.nx (ρ.set j (some d)) h1) (fun nm fs h1 => ((t.lookup nm).bind fun row => row.lookup m) = some true ∧
  ∀ a, h1 a = none → gsu { nx := fun ρ' h' => h' a = none → En.nx (ρ'.set i none) (mput h' a (.exc nm fs)), rt := fun _ _ => False } (ρ.set i (some (.ref a))) h1)
theorem s_tryK {D : Addr} {t : CTab} {e : Expr} {y : Str} {py spos : Pos} {j : Nat} {gx : GEX} {gsu : GS} (hB : clsB X.K t = true) (hs : X.stack = X.env :: X.outer) (hf : X.env.frame = some X.env.locals) (hex : X.ex = []) (hN : X.N.Nodup) (hi : X.N[i]? = some n) (hln : X.env.kindOf n = some .local)
    (hg : Gl X x) (hdb : (x == ("__debug__" : Str)) = false) (hm : X.mg x = some (.ref D)) (hcl : clsAt X.K x D)
    (he : ∀ (W : WX) (pn : List (Addr × Obj)) (xe : Value → Shared → Prop), Takes (X.tr pn xe) W → EX (X.tr pn xe) W e gx) (hsu : ∀ (a : Addr) (oe : Obj) (pn : List (Addr × Obj)), B3 (X.suite a ((a, oe) :: pn)) (b₀ :: suite) gsu)
    (hj : X.N[j]? = some y) (hy : Loc X.env.scope y) (hsw : swapsWith e (some (.Name y py)) spos.line X.env = pure false) (hfy : X.fn y = true ∨ X.env.scope.names.lookup y = some .local) :
    S3 X (.Try [.Assign [.Name y py] e spos] [.ExceptHandler (some (.Name x np)) (some n) (b₀ :: suite) pos'] [] [] pos) (gTry t x i j gx gsu) := by
  have base := ps_tryK (np := np) (pos := pos) (pos' := pos') (tb := fun W => tAsg (loX X.K W gx) (gName j)) (ts := fun _ => loS X.K gsu) hs hf hex hN hi hln (c := .ref D) ⟨hg, hdb, Or.inl hm⟩
    (fun W pn xe tk => pss_one (ps_set (X := X.tr pn xe) hN hj hy (he W pn xe tk) hsw hfy)) (fun a oe pn => hsu a oe pn)
  refine PSimp base fun D' σ H ⟨ρ, w, En, eH, gd, q, out⟩ => ?_
  subst eH
  refine ⟨ρ, w, _, _, rfl, gd, q, fun d w1 v q1 r1 e1 p1 => out.nx _ w1 _ q1 ((gd.ext r1 e1).set p1 j) e1, fun nm fs w1 C d ⟨ht, q1⟩ r1 e1 hC hF => ?_⟩
  cases hr : t.lookup nm with
  | none => rw [hr] at ht; cases ht
  | some row =>
    rw [hr] at ht
    refine ⟨C, rfl, ((cls_row hB hC hr).2.2 x D true hcl ht).2, fun a ha => ?_⟩
    refine ⟨ρ.set i (some (.ref a)), w1, _, rfl, (gd.ext r1 e1).set (.ref a) i, q1 a (r1.hnone ha).2, ⟨fun ρ3 w3 σ3 q3 g3 e3 => fun n3 => ?_, fun _ _ _ z _ _ _ => z.elim, fun _ _ _ z _ _ => z.elim, fun _ _ _ z _ _ => z.elim⟩⟩
    obtain ⟨r4, e4⟩ := g3.rel.put (p := a) (u := ExV C d a) (m := .exc nm fs) (.inl n3) fun u ex g => ⟨C, d, hC, g, (hF.ext e3).ext ex⟩
    exact out.nx _ ⟨mput w3.h a (.exc nm fs), upd w3.G a (ExV C d a), upd w3.H a (ExV C d a)⟩ _ (q3 (g3.rel.hnone n3).2) ((g3.ext r4 e4).unset i) ((e1.trans e3).trans e4)
end
end G3

namespace G3
open PySem PySem.Spec PyProof.Rows L2

/-! ### first, *others = a list -/
section
variable {prog : Program} {w : World} {A : Around} {E : Value → Shared → Prop} {s : Shared}
theorem star_items {l : Addr} {items : Array Value} {Q : List Value → Shared → Prop} (hh : A.handled = none) (hl : s.heap.IsList l items) (h1 : 1 ≤ items.size) (hz : items.size ≤ sizeLine)
    (h : ∀ D h' tk, (∀ b o, s.heap.get? b = some o → h'.get? b = some o) → s.heap.get? D = none → h'.get? D = some { cls := .type "list", data := .seq (items.toList.drop 1).toArray } → Q (items.toList.take 1 ++ [.ref D]) { s with heap := h', toks := tk }) :
    wpAny (model prog w) A (unpackItems (.ref l) 2 (some 1)) Q E s := by
  have hlt : l ≠ s.heap.objs.size := by
    obtain ⟨o, ho, _⟩ := hl
    exact Nat.ne_of_lt (Heap.lt_size ho)
  unfold unpackItems notIterableAtAll
  refine wpAny_bind (wpAny_bind (wpAny_specialOf hl.typeIs PySem.F.slot_list_iter.lookup (wpAny_pure ?_)))
  simp only [Bool.false_eq_true, if_false]
  refine wpAny_bind (wpAny_holding (wpAny_pyIter_list hl ?_))
  refine wpAny_bind (wpAny_holding (PySem.W.kun_draw hlt 1 0 _ _ ⟨_, Heap.get?_push_size _ rfl, rfl, rfl⟩ (hl.push _) (by omega) fun g1 it1 sb1 => ?_))
  have hl1 : g1.IsList l items := (hl.push _).extBut sb1.extBut hlt
  rw [List.drop_zero]
  have len1 : (items.toList.take 1).length = 1 := by rw [List.length_take, Array.length_toList]; omega
  rw [if_neg (by rw [len1]; decide)]
  have it1' := it1
  obtain ⟨oi, hoi, _⟩ := it1'
  have hl1' := hl1
  obtain ⟨ol, hol, _⟩ := hl1'
  refine wpAny_bind (wpAny_holding (PySem.W.kun_collect (s := { s with heap := g1 }) (T := "list_iterator") (k := 1) (.inr (.inr (.inl rfl))) (Walks.list (A := A.in1) hh s.heap.objs.size l hlt items) (fun j u st => st.1.typeIs) h1 ⟨it1, hl1⟩ (Heap.lt_size hoi) (Heap.lt_size hol) (fun g2 tk hk => ?_) hz))
  have rl : (items.toList.drop 1).length = items.size - 1 := by rw [List.length_drop, Array.length_toList]
  show wpAny _ _ (if (items.toList.drop 1).length < 2 - 1 - 1 then _ else _) _ _ _
  rw [if_neg (by omega)]
  show wpAny _ _ (newList ((items.toList.drop 1).take ((items.toList.drop 1).length - (2 - 1 - 1))) >>= fun d => pure (items.toList.take 1 ++ [d] ++ (items.toList.drop 1).drop ((items.toList.drop 1).length - (2 - 1 - 1)))) _ _ _
  have z0 : (items.toList.drop 1).length - (2 - 1 - 1) = (items.toList.drop 1).length := by omega
  rw [z0, List.take_of_length_le (Nat.le_refl _), List.drop_length, ]
  refine wpAny_bind (wpAny_newList (wpAny_pure ?_) (by rw [rl]; omega))
  rw [List.append_nil]
  have kp : ∀ b o, s.heap.get? b = some o → g2.get? b = some o := fun b o e => by
    have hb : b ≠ s.heap.objs.size := Nat.ne_of_lt (Heap.lt_size e)
    exact hk b o hb (sb1.extBut b o hb (Heap.get?_push_of_some _ e))
  refine h g2.objs.size _ tk (fun b o e => Heap.get?_push_of_some _ (kp b o e)) ?_ (Heap.get?_push_size _ rfl)
  cases q : s.heap.get? g2.objs.size with
  | none => rfl
  | some o => exact absurd (Heap.lt_size (kp _ _ q)) (Nat.lt_irrefl _)
end
section
variable {X : Cx} {pos : Pos} {es es' : List Expr} {k : Nat}
def gStar (K : PySem.W.Frag) (t : TGs) : TG := fun v σ H Q => ∃ a x xs, v = .ref a ∧ SqL K H a (x :: xs) ∧ ∀ D, H D = none → t [x, .ref D] σ (upd H D (.lst xs)) Q
theorem pg_star {t : TGs} (hc : X.calm = true) (h : PGs X es' t) (he : (assignEach es X.env).map (·.2) = (assignEach es' X.env).map (·.2)) (hn : (assignEach es X.env).length = 2) (hst : (assignEach es X.env).findIdx? (·.1) = some 1) :
    PG X (.Tuple es k pos) (gStar X.K t) := by
  refine ⟨fun pins s σ H v u Q I r ⟨a, x, xs, e1, hq, hw⟩ => ?_⟩
  subst e1
  cases (show u = Value.ref a from r)
  obtain ⟨its, rv, pl, hz⟩ := I.list hq
  rw [PyProof.Rows.assign_Tuple]
  refine wpAny_bind (wpAny_standAt ?_)
  unfold unpack
  rw [hn, hst, he]
  have hl := rv.length
  rw [List.length_cons] at hl
  refine wpAny_bind (wpAny_holding (star_items (I.ok.hd hc) pl.isList (by rw [List.size_toArray]; omega) (by rw [List.size_toArray, ← hl]; exact hz) fun D h' tk kp nD hD => ?_))
  match its, rv with
  | i :: its, .cons ri rr =>
    have hn : H D = none := I.hok.gone nD
    have sz : xs.length ≤ sizeLine := by
      have z : (x :: xs).length ≤ sizeLine := hz
      rw [List.length_cons] at z
      omega
    have J : L2.Inv X pins σ (upd H D (.lst xs)) { s with heap := h', toks := tk } := I.laidN kp nD hn ⟨sz, its, _, rr, hD⟩
    exact h.run pins _ σ _ [x, .ref D] [i, .ref D] Q J (.cons ri (.cons rfl .nil)) (hw D hn)
@[simp] def ggStar (g : GGs) : GG := fun d ρ h Q => ∃ x xs, lstOf h d = some (x :: xs) ∧ g [x, .lst xs] ρ h Q
def unstar : Expr → Expr
  | .Starred t _ => t
  | e => e
theorem g_star {vs : List Nat} {ggs : GGs} (hc : X.calm = true) (h : G3ts X (es.map unstar) vs ggs) (he : (assignEach es X.env).map (·.2) = (assignEach (es.map unstar) X.env).map (·.2) := by rfl) (hn : (assignEach es X.env).length = 2 := by rfl) (hst : (assignEach es X.env).findIdx? (·.1) = some 1 := by rfl) :
    G3t X (.Tuple es k pos) vs (ggStar ggs) := PGimp (pg_star hc h he hn hst) fun v σ H Q ⟨d, ρ, w, Q3, e, gd, p, ⟨x, xs, e2, q⟩, out⟩ => by
  subst e
  obtain ⟨a, ys, rfl, sq, ra⟩ := lstOf_at gd.rel p e2
  match ys, ra with
  | y :: ys, .cons ry rr =>
    refine ⟨a, y, ys, rfl, sq, fun D nD => ?_⟩
    obtain ⟨r2, e2, p2⟩ := new_lst (p := D) gd.rel rr nD
    exact ⟨[x, .lst xs], ρ, _, Q3, rfl, gd.ext r2 e2, .cons (ry.ext e2) (.cons p2 .nil), q, fun ρ' w' σ' q' g' e' hw => out ρ' w' σ' q' g' (e2.trans e') hw⟩
end
end G3

namespace G3
open PySem PySem.Spec PyProof.Rows L2
section
variable {X : Cx}
/-! ### a text, so often -/
def strRep (x : Str) (n : Nat) : Str := ⟨(List.replicate n x.cps).foldl (· ++ ·) #[]⟩
@[simp] def rMulS : D2 := fun a b h Q => ∃ (x : Str) (k : Int), a = .str x ∧ b = .int k ∧ 2 ≤ k ∧ k ≤ 1000 ∧ 1 ≤ x.length ∧ x.length ≤ 1000 ∧ Q (.str (strRep x k.toNat)) h
theorem foldl_len (c : Array Nat) : ∀ (n : Nat) (acc : Array Nat), ((List.replicate n c).foldl (· ++ ·) acc).size = acc.size + n * c.size
  | 0, acc => by simp
  | n + 1, acc => by
    rw [List.replicate_succ, List.foldl_cons, foldl_len c n (acc ++ c), Array.size_append, Nat.add_mul]
    omega
theorem strRep_len (x : Str) (n : Nat) : (strRep x n).length = n * x.length := by
  have := foldl_len x.cps n #[]
  unfold strRep Str.length at *
  simpa using this
theorem o_mulS : OpR X (binaryOp .Mult) (lo2 X.K rMulS) := by
  intro pins s σ H x y v u Q I rx ry h
  obtain ⟨a, b, w, Q3, e, r, pa, pb, ⟨z, k, rfl, rfl, k1, k2, l1, l2, q⟩, out⟩ := h
  subst e
  cases pa
  cases pb
  obtain ⟨t, rfl⟩ := rx
  obtain ⟨t2, rfl⟩ := ry
  have n1 : ¬ k < 1 := by omega
  have n2 : (k == 1 || z.length == 0) = false := by
    rw [Bool.or_eq_false_iff]
    exact ⟨beq_eq_false_iff_ne.mpr (by omega), beq_eq_false_iff_ne.mpr (by omega)⟩
  have tot : z.length * k.toNat ≤ 1000 * 1000 := Nat.mul_le_mul l2 (by omega)
  refine PySem.P.mul_str (by rw [decide_eq_false (by omega), decide_eq_false (by omega)]; rfl) (fun _ _ => ?_) (fun _ _ => ?_) ?_
  · have : (9223372036854775 : Int) ≤ (2 ^ 63 - 1) / k := by
      refine Int.le_ediv_of_mul_le (by omega) ?_
      omega
    omega
  · refine decide_eq_false ?_
    rw [sizeLine_val]
    omega
  · rw [if_neg n1, if_neg (by rw [n2]; decide)]
    have hz : (strRep z k.toNat).length ≤ sizeLine := by
      rw [strRep_len, sizeLine_val, Nat.mul_comm]
      omega
    exact ⟨hz, .str (strRep z k.toNat), w.H, I.tok _, ⟨s.toks, rfl⟩, out _ w _ q r (Ext.refl w) (.str _)⟩
end
end G3

namespace G3
open PySem PySem.Spec PyProof.Rows L2

/-! ### own classes: what is asked of them, as one truth; their instances' attributes -/
abbrev ITab := List (Str × List Str)
def insB (K : PySem.W.Frag) (tb : ITab) : Bool := tb.all fun p => match PySem.W.nsIn K mainGlobals p.1 with
  | some (some (.ref C)) => PySem.W.plainGet K C Str.empty && PySem.W.hasDictIn K C && PySem.W.plainOver K C && decide (PySem.W.findIn K (.ref C) "__setattr__" = some (some (.builtin "object.__setattr__"))) &&
    p.2.all fun f => decide (PySem.W.findIn K (.ref C) f = some none)
  | _ => false
def hasF (tb : ITab) (n f : Str) : Bool := match tb.lookup n with
  | some row => row.contains f
  | none => false
theorem ins_row {K : PySem.W.Frag} {tb : ITab} {n f : Str} {C : Addr} (h : insB K tb = true) (a : clsAt K n C) (l : hasF tb n f = true) : Cls K C ∧ NoAttr K C f := by
  unfold hasF at l
  cases hr : tb.lookup n with
  | none => rw [hr] at l; cases l
  | some row =>
    rw [hr] at l
    have q := List.all_eq_true.mp h _ (mem_lookup hr)
    unfold clsAt at a
    dsimp only at q l
    rw [a] at q
    simp only [Bool.and_eq_true, decide_eq_true_eq] at q
    obtain ⟨⟨⟨⟨q1, q2⟩, q3⟩, q4⟩, q5⟩ := q
    refine ⟨⟨q1, q2, q3, q4⟩, ?_⟩
    have z := List.all_eq_true.mp q5 f (List.contains_iff_mem.mp l)
    exact (of_decide_eq_true z : PySem.W.findIn K (.ref C) f = some none)
def putFd (f : Str) (v : Dv) : List (Str × Dv) → List (Str × Dv)
  | [] => [(f, v)]
  | (g, x) :: r => if g = f then (g, v) :: r else (g, x) :: putFd f v r
theorem RpF.len {K : PySem.W.Frag} {w : Wd} : ∀ {fs : List (Str × Dv)} {vs : List (Str × V)}, RpF K w fs vs → vs.length = fs.length
  | _, _, .nil => rfl
  | _, _, .cons _ t => congrArg (· + 1) (RpF.len t)
theorem RpF.put {K : PySem.W.Frag} {w : Wd} {f : Str} {d : Dv} {v : V} (r : Rp K w d v) : ∀ {fs : List (Str × Dv)} {vs : List (Str × V)}, RpF K w fs vs → RpF K w (putFd f d fs) (putF f v vs)
  | _, _, .nil => .cons ⟨rfl, r⟩ .nil
  | (g, x) :: fs, (g', y) :: vs, .cons ⟨e1, e2⟩ t => by
    dsimp only at e1
    subst e1
    unfold putFd putF
    by_cases e : g = f
    · rw [if_pos e, if_pos e]
      exact .cons ⟨rfl, r⟩ t
    · rw [if_neg e, if_neg e]
      exact .cons ⟨rfl, e2⟩ (RpF.put r t)
theorem RpF.no {K : PySem.W.Frag} {w : Wd} {f : Str} : ∀ {fs : List (Str × Dv)} {vs : List (Str × V)}, RpF K w fs vs → fs.lookup f = none → vs.lookup f = none
  | [], _, .nil, _ => rfl
  | (g, x) :: fs, (g', y) :: vs, .cons ⟨e1, e2⟩ t, h => by
    dsimp only at e1
    subst e1
    rw [List.lookup] at h ⊢
    by_cases e : f = g
    · subst e
      rw [beq_self_eq_true] at h
      cases h
    · rw [beq_eq_false_iff_ne.mpr e] at h ⊢
      exact RpF.no t h
section
variable {X : Cx} {tb : ITab} {f m n : Str} {e o value : Expr} {es : List Expr} {go gv : GE} {gs : GA} {pos pos' apos p : Pos}
@[simp] def gFld (tb : ITab) (f : Str) (go : GE) : GE := fun ρ h Q => go ρ h fun d h1 => ∃ a n fs v, d = .ref a ∧ h1 a = some (.ins n fs) ∧ hasF tb n f = true ∧ fs.lookup f = some v ∧ Q v h1
theorem e_fld (hB : insB X.K tb = true) (he : E3 X e go) (hb : attributeBase e f X.env (eval e X.env) = eval e X.env := by rfl) : E3 X (.Attribute e f pos) (gFld tb f go) := PEimp (pe_fld he hb) fun σ H Q ⟨ρ, w, Q3, eH, gd, q, out⟩ => by
  subst eH
  refine ⟨ρ, w, _, rfl, gd, q, fun d w1 v1 ⟨a, n, fs, v, e1, hp, hf, hl, q1⟩ r1 ex p1 => ?_⟩
  subst e1
  cases p1
  obtain ⟨C, dx, vs, hC, hG, hH, rF⟩ := r1.mins hp
  obtain ⟨c, na⟩ := ins_row hB hC hf
  obtain ⟨v', hv, rv⟩ := RpF.get rF hl
  exact ⟨a, C, dx, vs, v', rfl, hH, c, na, hv, out v w1 v' q1 r1 ex rv⟩
theorem put_ins {K : PySem.W.Frag} {w : Wd} {a C dx : Addr} {n f : Str} {fs : List (Str × Dv)} {vs : List (Str × V)} {y : Dv} {v : V} (r : Rel K w) (hp : w.h a = some (.ins n fs)) (hC : clsAt K n C) (rF : RpF K w fs vs) (ry : Rp K w y v) :
    Rel K ⟨mput w.h a (.ins n (putFd f y fs)), upd w.G a (.ins C dx (putF f v vs)), upd w.H a (.ins C dx (putF f v vs))⟩ ∧ Ext w ⟨mput w.h a (.ins n (putFd f y fs)), upd w.G a (.ins C dx (putF f v vs)), upd w.H a (.ins C dx (putF f v vs))⟩ :=
  r.put (.inr ⟨_, hp, id⟩) fun u ex g => ⟨C, dx, _, hC, g, RpF.put (ry.ext ex) (rF.ext ex)⟩
@[simp] def gSetF (tb : ITab) (f : Str) (go gv : GE) : GS := fun E ρ h => gv ρ h fun y h1 => go ρ h1 fun d h2 => ∃ a n fs, d = .ref a ∧ h2 a = some (.ins n fs) ∧ hasF tb n f = true ∧ fs.length < 1000 ∧ E.nx ρ (mput h2 a (.ins n (putFd f y fs)))
theorem s_fld (hB : insB X.K tb = true) (ho : E3 X o go) (hv : E3 X value gv) (hs : swapsWith value (some (.Attribute o f pos')) pos.line X.env = pure false := by rfl) : S3 X (.Assign [.Attribute o f pos'] value pos) (gSetF tb f go gv) := PSimp (ps_fld ho hv hs) fun D σ H ⟨ρ, w, E, eH, gd, q, out⟩ => by
  subst eH
  refine ⟨ρ, w, _, rfl, gd, q, fun y w1 v1 q1 r1 e1 p1 => ⟨ρ, w1, _, rfl, gd.ext r1 e1, q1, fun d w2 v2 ⟨a, n, fs, ed, hp, hf, hl, q2⟩ r2 e2 p2 => ?_⟩⟩
  subst ed
  cases p2
  obtain ⟨C, dx, vs, hC, hG, hH, rF⟩ := r2.mins hp
  obtain ⟨c, na⟩ := ins_row hB hC hf
  obtain ⟨r3, e3⟩ := put_ins (f := f) (dx := dx) r2 hp hC rF (p1.ext e2)
  exact ⟨a, C, dx, vs, rfl, hH, c, na, by rw [RpF.len rF]; exact hl, out.nx ρ _ σ q2 (((gd.ext r1 e1).ext r2 e2).ext r3 e3) ((e1.trans e2).trans e3)⟩
/-! as a target -/
def tgFld (K : PySem.W.Frag) (to : TE) (f : Str) : TG := fun v σ H Q => to σ H fun x H1 => ∃ a C dx fs, x = .ref a ∧ H1 a = some (.ins C dx fs) ∧ Cls K C ∧ NoAttr K C f ∧ fs.length < 1000 ∧ Q σ (upd H1 a (.ins C dx (putF f v fs)))
theorem pg_fld {to : TE} (ho : PE X o to) : PG X (.Attribute o f pos) (tgFld X.K to f) := by
  refine ⟨fun pins s σ H v u Q I r h => ?_⟩
  rw [arm_assign_Attribute]
  refine wpAny_bind (wpAny_holding (thn (ho.run pins s σ H _ I h) fun ov s1 ⟨x, H1, I1, r1, a, C, dx, fs, ex, ea, c, n, l, q⟩ => ?_))
  subst ex
  cases (show ov = Value.ref a from r1)
  refine wpAny_bind (wpAny_standAt (wpAny_bind (wpAny_holding (setattr_ok I1 ea c n l r fun s3 I3 => wpAny_release ⟨σ, _, I3, q⟩))))
@[simp] def ggFld (tb : ITab) (f : Str) (go : GE) : GG := fun y ρ h Q => go ρ h fun d h1 => ∃ a n fs, d = .ref a ∧ h1 a = some (.ins n fs) ∧ hasF tb n f = true ∧ fs.length < 1000 ∧ Q ρ (mput h1 a (.ins n (putFd f y fs)))
theorem g_fld (vs : List Nat) (hB : insB X.K tb = true) (ho : E3 X o go) : G3t X (.Attribute o f pos) vs (ggFld tb f go) := PGimp (pg_fld ho) fun v σ H Q ⟨y, ρ, w, Q3, eH, gd, py, q, out⟩ => by
  subst eH
  refine ⟨ρ, w, _, rfl, gd, q, fun d w1 v1 ⟨a, n, fs, ed, hp, hf, hl, q1⟩ r1 e1 p1 => ?_⟩
  subst ed
  cases p1
  obtain ⟨C, dx, vs, hC, hG, hH, rF⟩ := r1.mins hp
  obtain ⟨c, na⟩ := ins_row hB hC hf
  obtain ⟨r3, e3⟩ := put_ins (f := f) (dx := dx) r1 hp hC rF (py.ext e1)
  exact ⟨a, C, dx, vs, rfl, hH, c, na, by rw [RpF.len rF]; exact hl, out ρ _ σ q1 ((gd.ext r1 e1).ext r3 e3) (e1.trans e3) rfl⟩
/-! ### methods -/
variable {C g : Addr} {k : Nat} {fd : FuncData} {ps : List Str} {sp : Sp3}
structure MethK (K : PySem.W.Frag) (n m : Str) (C g : Addr) : Prop where
  at_ : clsAt K n C
  cls : Cls K C
  m : Meth K C m g
@[simp] def gMeth (n m : Str) (sp : Sp3) (go : GE) (gs : GA) : GE := fun ρ h Q => go ρ h fun d h1 => ∃ a fs, d = .ref a ∧ h1 a = some (.ins n fs) ∧ fs.lookup m = none ∧ gs ρ h1 fun ds h2 => sp (d :: ds) h2 Q
theorem e_meth {pl : Sem Bool} (F : FnG X.prog X.w X.K X.mg X.base k g fd ps sp) (hr : Room k X.A) (hgd : X.A.guards = some []) (M : MethK X.K n m C g) (hb : Binds X.K fd ps []) (ho : E3 X o go) (ha : A3 X (e :: es) gs)
    (hst : starEach (e :: es) X.env = (false, eval e X.env) :: starEach es X.env := by rfl) (hpl : (backTo pos (starEach es X.env)).any (·.1) = false := by rfl)
    (ht : eval (.Call (.Attribute o m apos) (e :: es) [] pos) X.env = (do
      let ov ← eval o X.env
      standAt apos.atName
      let (f, first) ← holding [ov] (getMethod ov m pl)
      callWith pos f first (backTo pos (starEach (e :: es) X.env)) (backToKw pos (keywordEach [] X.env))) := by rfl) :
    E3 X (.Call (.Attribute o m apos) (e :: es) [] pos) (gMeth n m sp go gs) := by
  refine ⟨fun pins s σ H Q I ⟨ρ, w, Q3, eH, gd, q, out⟩ => ?_⟩
  subst eH
  refine PySem.W.methodCall_KW (pl := pl) (thn (ho.run pins s σ w.H (fun x H1 => ∃ a fs w1, x = .ref a ∧ w1.H = H1 ∧ Rel X.K w1 ∧ Ext w w1 ∧ w1.h a = some (.ins n fs) ∧ fs.lookup m = none ∧ gs ρ w1.h fun ds h2 => sp (.ref a :: ds) h2 Q3) I
    ⟨ρ, w, _, rfl, gd, q, fun d w1 v1 ⟨a, fs, ed, hp, hl, q1⟩ r1 e1 p1 => by subst ed; cases p1; exact ⟨a, fs, w1, rfl, rfl, r1, e1, hp, hl, q1⟩⟩) fun u s1 ⟨x, H1, I1, rx, a, fs, w1, ex, eH1, r1, e1, hp, hl, q1⟩ => ?_) ht
  subst ex eH1
  cases (show u = Value.ref a from rx)
  obtain ⟨C', dx, vs, hC, hG, hH, rF⟩ := r1.mins hp
  cases clsAt_one hC M.at_
  refine getmeth_ok I1 hH M.cls M.m (RpF.no rF hl) ?_
  have args := ha.run pos pins s1 σ w1.H (fun vs H2 => up X.K sp (.ref a :: vs) H2 Q) I1 ⟨ρ, w1, _, rfl, gd.ext r1 e1, q1, fun ds w2 vs q2 r2 e2 p2 => ⟨.ref a :: ds, w2, Q3, rfl, r2, .cons (.ref a) p2, q2, out.ext (e1.trans e2)⟩⟩
  exact PySem.W.callWith_K (first := [.ref a]) (h₀ := X.base) I.ok.mod.kin M.m.kp (thn args fun us s2 ⟨vs, H2, I2, r, q2⟩ => ⟨I2.kIn, run_g (us := .ref a :: us) (vs := .ref a :: vs) F hr hgd hb I2 (.cons rfl r) q2⟩) hst hpl
theorem e_meth0 {pl : Sem Bool} (F : FnG X.prog X.w X.K X.mg X.base k g fd ps sp) (hr : Room k X.A) (hgd : X.A.guards = some []) (M : MethK X.K n m C g) (hb : Binds X.K fd ps []) (ho : E3 X o go)
    (ht : eval (.Call (.Attribute o m apos) [] [] pos) X.env = (do
      let ov ← eval o X.env
      standAt apos.atName
      let (f, first) ← holding [ov] (getMethod ov m pl)
      callWith pos f first (backTo pos (starEach [] X.env)) (backToKw pos (keywordEach [] X.env))) := by rfl) :
    E3 X (.Call (.Attribute o m apos) [] [] pos) (gMeth n m sp go gNil) := by
  refine ⟨fun pins s σ H Q I ⟨ρ, w, Q3, eH, gd, q, out⟩ => ?_⟩
  subst eH
  refine PySem.W.methodCall_KW (pl := pl) (thn (ho.run pins s σ w.H (fun x H1 => ∃ a fs w1, x = .ref a ∧ w1.H = H1 ∧ Rel X.K w1 ∧ Ext w w1 ∧ w1.h a = some (.ins n fs) ∧ fs.lookup m = none ∧ sp [.ref a] w1.h Q3) I
    ⟨ρ, w, _, rfl, gd, q, fun d w1 v1 ⟨a, fs, ed, hp, hl, q1⟩ r1 e1 p1 => by subst ed; cases p1; exact ⟨a, fs, w1, rfl, rfl, r1, e1, hp, hl, q1⟩⟩) fun u s1 ⟨x, H1, I1, rx, a, fs, w1, ex, eH1, r1, e1, hp, hl, q1⟩ => ?_) ht
  subst ex eH1
  cases (show u = Value.ref a from rx)
  obtain ⟨C', dx, vs, hC, hG, hH, rF⟩ := r1.mins hp
  cases clsAt_one hC M.at_
  refine getmeth_ok I1 hH M.cls M.m (RpF.no rF hl) ?_
  exact PySem.W.callWith_K0 (first := [.ref a]) I1.kIn M.m.kp (run_g (us := [.ref a]) (vs := [.ref a]) F hr hgd hb I1 (.cons rfl .nil) ⟨[.ref a], w1, Q3, rfl, r1, .cons (.ref a) .nil, q1, out.ext e1⟩)
/-! ### a new instance -/
theorem new_ins {K : PySem.W.Frag} {w : Wd} {x dx C : Addr} {n : Str} (r : Rel K w) (hC : clsAt K n C) (hx : w.H x = none) (hd : w.H dx = none) (ne : dx ≠ x) :
    Rel K ⟨mput w.h x (.ins n []), upd w.G x (.ins C dx []), upd (upd w.H dx (.own x)) x (.ins C dx [])⟩ ∧ Ext w ⟨mput w.h x (.ins n []), upd w.G x (.ins C dx []), upd (upd w.H dx (.own x)) x (.ins C dx [])⟩ := by
  have r1 := r.junkPut (r.hnone hd).1 (fun _ z => by rw [hd] at z; cases z) (.own x)
  have kp : ∀ p u, w.H p = some u → p ≠ dx := fun p u e z => by rw [z, hd] at e; cases e
  have e1 : Ext w ⟨w.h, w.G, upd w.H dx (.own x)⟩ := ⟨fun p u a b => ⟨b, a⟩, fun p u a b _ => ⟨a, by show upd w.H dx _ p = _; rw [upd_ne (kp p u b)]; exact b⟩, fun p m a _ => ⟨a, rfl, upd_ne (by
    obtain ⟨u, hu⟩ := r.there a
    exact kp p u hu)⟩⟩
  obtain ⟨r2, e2⟩ := r1.put (p := x) (u := .ins C dx []) (m := .ins n []) (.inl (by show upd w.H dx _ x = none; rw [upd_ne (Ne.symm ne)]; exact hx)) fun u ex g => ⟨C, dx, [], hC, g, .nil⟩
  exact ⟨r2, e1.trans e2⟩
@[simp] def gNew (n : Str) (sp : Sp3) (gs : GA) : GE := fun ρ h Q => gs ρ h fun ds h1 => ∀ a, h1 a = none → sp (.ref a :: ds) (mput h1 a (.ins n [])) fun v h2 => v = .non ∧ Q (.ref a) h2
theorem run_new {x : Str} {pins : List (Addr × Obj)} {σ : L2.St} {s : Shared} {Q : VK} {us : List Value} {vs : List V} {ds : List Dv} {w : Wd} {Q3 : Kd} (M : Mk X.K C g) (hC : clsAt X.K x C) (F : FnG X.prog X.w X.K X.mg X.base k g fd ps sp) (hr : Room (k + 1) X.A) (hgd : X.A.guards = some []) (hb : Binds X.K fd ps [])
    (I : L2.Inv X pins σ w.H s) (r : Vals vs us) (rl : Rel X.K w) (ra : RpAll X.K w ds vs) (out : Out X.K w Q3 Q) (h : ∀ a, w.h a = none → sp (.ref a :: ds) (mput w.h a (.ins x [])) fun v h2 => v = .non ∧ Q3 (.ref a) h2) :
    wpAny (model X.prog X.w) X.A (call (.ref C) us) (EP X pins σ Q) X.xe s := by
  have fx := I.hok.fresh (Nat.le_succ s.heap.objs.size)
  have fd0 := I.hok.fresh (Nat.le_refl s.heap.objs.size)
  have ne : s.heap.objs.size ≠ s.heap.objs.size + 1 := Nat.ne_of_lt (Nat.lt_succ_self _)
  have hq := h (s.heap.objs.size + 1) (rl.hnone fx).2
  obtain ⟨r2, e2⟩ := new_ins rl hC fx fd0 ne
  have I2 := Inv.made (C := C) I
  have r3 : Vals (V.ref (s.heap.objs.size + 1) :: vs) (Value.ref (s.heap.objs.size + 1) :: us) := .cons rfl r
  have hu : up X.K sp (V.ref (s.heap.objs.size + 1) :: vs) (upd (upd w.H s.heap.objs.size (.own (s.heap.objs.size + 1))) (s.heap.objs.size + 1) (.ins C s.heap.objs.size [])) (fun v H2 => v = .non ∧ Q (.ref (s.heap.objs.size + 1)) H2) :=
    ⟨_, _, _, rfl, r2, .cons (.ref _) (ra.ext e2), hq, fun d w' v ⟨ed, q'⟩ r' e' p' => by
      subst ed
      cases p'
      exact ⟨rfl, out _ w' _ q' r' (e2.trans e') (.ref _)⟩⟩
  have hl : (Value.ref (s.heap.objs.size + 1) :: us ++ []).length = ps.length := by
    rw [List.append_nil, ← r3.length, List.length_cons, lenD ra]
    exact F.len _ _ _ hq
  have hbs := hb _ (Value.ref (s.heap.objs.size + 1) :: us) I2.kIn hl
  rw [List.append_nil] at hbs
  refine wpAny_call (make_map (f := g) I.kIn M.makes M.init (beq_iff_eq.mp M.fn) (codeAny_mono (F.run _ X.stack _ _ ⟨Value.ref (s.heap.objs.size + 1) :: us, []⟩ (Value.ref (s.heap.objs.size + 1) :: us) _ _ (hr.make C us []) hgd (I2.env0.make C us []) hbs r3 hu) fun res s' hq' => ?_))
  cases res with
  | error e => exact hq'.elim
  | ok fl =>
    cases fl with
    | ret u =>
      obtain ⟨v, H', I3, rv, ev, q3⟩ := I2.after hq'
      subst ev
      exact ⟨rv, ⟨V.ref (s.heap.objs.size + 1), H', I3, rfl, q3⟩⟩
    | next => exact hq'.elim
    | brk => exact hq'.elim
    | cont => exact hq'.elim
theorem e_new0 {x : Str} (M : Mk X.K C g) (hC : clsAt X.K x C) (F : FnG X.prog X.w X.K X.mg X.base k g fd ps sp) (hr : Room (k + 1) X.A) (hgd : X.A.guards = some []) (hb : Binds X.K fd ps []) (hg : Gl X x) (hm : X.mg x = some (.ref C)) (hdb : (x == ("__debug__" : Str)) = false := by decide) :
    E3 X (.Call (.Name x p) [] [] pos) (gNew x sp gNil) := by
  refine ⟨fun pins s σ H Q I ⟨ρ, w, Q3, eH, gd, q, out⟩ => ?_⟩
  subst eH
  refine wpAny_Call_Name_kw (ld_glob I hg hm ?_ hdb)
  exact PySem.W.callWith_K0 I.kIn M.kp (run_new (us := []) (vs := []) M hC F hr hgd hb I .nil gd.rel .nil out q)
theorem e_new {x : Str} (M : Mk X.K C g) (hC : clsAt X.K x C) (F : FnG X.prog X.w X.K X.mg X.base k g fd ps sp) (hr : Room (k + 1) X.A) (hgd : X.A.guards = some []) (hb : Binds X.K fd ps []) (hg : Gl X x) (hm : X.mg x = some (.ref C)) (ha : A3 X (e :: es) gs) (hdb : (x == ("__debug__" : Str)) = false := by decide)
    (he : starEach (e :: es) X.env = (false, eval e X.env) :: starEach es X.env := by rfl) (hpl : (backTo pos (starEach es X.env)).any (·.1) = false := by rfl) : E3 X (.Call (.Name x p) (e :: es) [] pos) (gNew x sp gs) := by
  refine ⟨fun pins s σ H Q I ⟨ρ, w, Q3, eH, gd, q, out⟩ => ?_⟩
  subst eH
  refine wpAny_Call_Name_kw (ld_glob I hg hm ?_ hdb)
  have args := ha.run pos pins s σ w.H (fun vs H1 => ∃ ds w1, w1.H = H1 ∧ Rel X.K w1 ∧ Ext w w1 ∧ RpAll X.K w1 ds vs ∧ ∀ a, w1.h a = none → sp (.ref a :: ds) (mput w1.h a (.ins x [])) fun v h2 => v = .non ∧ Q3 (.ref a) h2) I ⟨ρ, w, _, rfl, gd, q, fun ds w1 vs q1 r1 e1 p1 => ⟨ds, w1, rfl, r1, e1, p1, q1⟩⟩
  exact PySem.W.callWith_K (h₀ := X.base) I.ok.mod.kin M.kp (thn args fun us s1 ⟨vs, H1, I1, r, ds, w1, eH, r1, e1, p1, q1⟩ => ⟨I1.kIn, by subst eH; exact run_new M hC F hr hgd hb I1 r r1 p1 (out.ext e1) q1⟩) he hpl
/-! ### len of a dict -/
def cLenA : DC := fun ds h Q => cLen ds h Q ∨ ∃ a kvs, ds = [.ref a] ∧ h a = some (.dK kvs) ∧ Q (.int (kvs.length : Nat)) h
theorem RpK.len {κ : Type} {K : PySem.W.Frag} {w : Wd} : ∀ {fs : List (κ × Dv)} {vs : List (κ × V)}, RpK K w fs vs → vs.length = fs.length
  | _, _, .nil => rfl
  | _, _, .cons _ t => congrArg (· + 1) (RpK.len t)
theorem c_lenA (hc : C3 X (.builtin "len") cLen) : C3 X (.builtin "len") cLenA := by
  intro pins s σ H xs us Q I rx h
  obtain ⟨ds, w, Q3, e, r, ra, h | ⟨a, kvs, rfl, hp, q⟩, out⟩ := h
  · exact hc pins s σ H xs us Q I rx ⟨ds, w, Q3, e, r, ra, h, out⟩
  · subst e
    obtain ⟨x, rfl, rp⟩ := ra.one
    cases rp
    obtain ⟨vs, hG, hH, rk⟩ := r.mdK hp
    refine call_lenD pins s σ w.H _ us Q I rx ⟨a, vs, rfl, hH, ?_⟩
    rw [RpK.len rk]
    exact out _ w _ q r (Ext.refl w) (.int _)
end
end G3

namespace G3
open PySem PySem.Spec PyProof.Rows L2
section
variable {X : Cx}
/-! ### a text so often, none or once too; a list so often -/
@[simp] def rMulS2 : D2 := fun a b h Q => ∃ (x : Str) (k : Int), a = .str x ∧ b = .int k ∧ 0 ≤ k ∧ k ≤ 1000 ∧ 1 ≤ x.length ∧ x.length ≤ 1000 ∧ Q (.str (strRep x k.toNat)) h
theorem o_mulS2 : OpR X (binaryOp .Mult) (lo2 X.K rMulS2) := by
  intro pins s σ H x y v u Q I rx ry h
  obtain ⟨a, b, w, Q3, e, r, pa, pb, ⟨z, k, rfl, rfl, k0, k2, l1, l2, q⟩, out⟩ := h
  by_cases k1 : 2 ≤ k
  · exact o_mulS pins s σ H x y v u Q I rx ry ⟨_, _, w, Q3, e, r, pa, pb, ⟨z, k, rfl, rfl, k1, k2, l1, l2, q⟩, out⟩
  subst e
  cases pa
  cases pb
  obtain ⟨t, rfl⟩ := rx
  obtain ⟨t2, rfl⟩ := ry
  have tot : z.length * k.toNat ≤ 1000 * 1000 := Nat.mul_le_mul l2 (by omega)
  refine PySem.P.mul_str (by rw [decide_eq_false (by omega), decide_eq_false (by omega)]; rfl) (fun n1 n2 => ?_) (fun _ _ => ?_) ?_
  · have : (9223372036854775 : Int) ≤ (2 ^ 63 - 1) / k := by
      refine Int.le_ediv_of_mul_le (by omega) ?_
      omega
    omega
  · refine decide_eq_false ?_
    rw [sizeLine_val]
    omega
  · by_cases k3 : k = 0
    · subst k3
      rw [if_pos (by decide)]
      exact ⟨by decide, .str (strRep z 0), w.H, I.tok _, ⟨s.toks, rfl⟩, out _ w _ q r (Ext.refl w) (.str _)⟩
    · have k4 : k = 1 := by omega
      subst k4
      rw [if_neg (by decide), if_pos (by simp)]
      have e1 : strRep z 1 = z := by
        unfold strRep
        simp
      have e2 : (1 : Int).toNat = 1 := rfl
      rw [e2, e1] at q
      exact ⟨.str z, w.H, I, ⟨t, rfl⟩, out _ w _ q r (Ext.refl w) (.str _)⟩
@[simp] def rMulL : D2 := fun a b h Q => ∃ (l : Addr) (k : Int) (ds : List Dv), a = .ref l ∧ b = .int k ∧ h l = some (.lst ds) ∧ 0 ≤ k ∧ k ≤ 1000 ∧ ds.length ≤ 1000 ∧ Q (.lst (List.replicate k.toNat ds).flatten) h
theorem rep_all {K : PySem.W.Frag} {w : Wd} {ds : List Dv} {xs : List V} (r : RpAll K w ds xs) : ∀ n : Nat, RpAll K w (List.replicate n ds).flatten (List.replicate n xs).flatten
  | 0 => .nil
  | n + 1 => by
    rw [List.replicate_succ, List.replicate_succ, List.flatten_cons, List.flatten_cons]
    exact r.append (rep_all r n)
theorem o_mulL : OpR X (binaryOp .Mult) (lo2 X.K rMulL) := by
  intro pins s σ H x y v u Q I rx ry h
  obtain ⟨a, b, w, Q3, e, r, pa, pb, ⟨l, k, ds, rfl, rfl, hl, k0, k2, l2, q⟩, out⟩ := h
  subst e
  cases pa
  cases pb
  obtain ⟨xs, hG, hH, ra⟩ := r.mlst hl
  have lx := ra.length
  have tot : xs.length * k.toNat ≤ 1000 * 1000 := Nat.mul_le_mul (by omega) (by omega)
  refine op_rep pins s σ w.H _ _ v u Q I rx ry ⟨l, k, xs, rfl, rfl, hH, by omega, by omega, by rw [sizeLine_val]; omega, fun p np => ?_⟩
  obtain ⟨r2, e2, p2⟩ := new_lst (p := p) r (rep_all ra k.toNat) np
  exact out.go r2 e2 p2 q
end
end G3

namespace G3
open PySem PySem.Spec PyProof.Rows L2
/-! ### sets of tuples of texts, numbers and such tuples: fewer than 64 -/
def IsN (h : Heap) (k : NestedKey) (a : Addr) : Prop := NestedIs h k (.ref a) ∧ k.depth ≤ 8
theorem IsN.at {h h' : Heap} {k : NestedKey} {a : Addr} (x : IsN h k a) (e : ∀ b o vs n, h.get? b = some o → o.data = .seq vs n → h'.get? b = some o) : IsN h' k a := ⟨NestedIs.at e _ _ x.1, x.2⟩
theorem IsN.keep {h h' : Heap} {k : NestedKey} {a : Addr} (x : IsN h k a) (e : ∀ b o, h.get? b = some o → h'.get? b = some o) : IsN h' k a := x.at fun b o _ _ z _ => e b o z
theorem IsN.same {h h' : Heap} {k : NestedKey} {a b : Addr} {o : Obj} {es : Array (Int × Value)} {ep : Nat} {t : SetTable} (x : IsN h k b) (ho : h.get? a = some o) (hd : o.data = .set es ep t) (hs : Heap.SameBut a h h') : IsN h' k b := x.at fun c oc vs n e d => by
  refine (hs.2 c fun z => ?_).trans e
  rw [z, ho] at e
  cases e
  rw [hd] at d
  cases d
section
variable {P : Program} {w : World} {A : Around} {E : Value → Shared → Prop} {s : Shared}
/-- whatever hash tells of a key, by value or not -/
def HbAt (P : Program) (w : World) (n : Nat) (s : Shared) (v : Value) : Prop := ∀ (A : Around) (E : Value → Shared → Prop) (Q : Bool → Shared → Prop), (∀ b, Q b s) → wpAny (model P w) A (hashByValue n v) Q E s
def OaAt (P : Program) (w : World) (n : Nat) (s : Shared) (v : Value) : Prop := ∀ (A : Around) (E : Value → Shared → Prop) (Q : Bool → Shared → Prop), Q false s → wpAny (model P w) A (ofAClassStatement n v) Q E s
theorem hb_tup {n : Nat} {a : Addr} {o : Obj} {vs : Array Value} {m : Nat} (ho : s.heap.get? a = some o) (hc : o.cls = .type "tuple") (hd : o.data = .seq vs m) (hq : ∀ v ∈ vs.toList, HbAt P w n s v) : HbAt P w (n + 1) s (.ref a) := fun A E Q h => by
  have hT : s.TypeIs (.ref a) "tuple" := ⟨o, ho, hc⟩
  unfold hashByValue
  refine wpAny_bind (wpAny_specialOf hT F.slot_tuple_hash.lookup ?_)
  show wpAny _ _ (seqItems? (.ref a) >>= _) _ _ s
  refine wpAny_bind (wpAny_seqItems ho hd ?_)
  refine wpAny_bind ?_
  show wpAny _ _ (forIn vs _ _) _ _ s
  rw [← Array.forIn_toList]
  refine wpAny_forIn_list _ (fun rest r s' => r.1 = none ∧ s' = s ∧ ∀ v ∈ rest, HbAt P w n s v) _ ?_ ?_ _ _ ⟨rfl, rfl, hq⟩
  · rintro v rest r s' ⟨hr, rfl, hall⟩
    refine wpAny_bind (hall v List.mem_cons_self _ _ _ fun b => ?_)
    cases b with
    | true =>
      simp only [Bool.not_true, Bool.false_eq_true, if_false]
      exact wpAny_pure ⟨rfl, rfl, fun u hu' => hall u (List.mem_cons_of_mem _ hu')⟩
    | false =>
      simp only [Bool.not_false, if_true]
      refine wpAny_pure ?_
      exact wpAny_pure (h _)
  · rintro ⟨r1, r2⟩ s' ⟨hr, rfl, _⟩
    simp only at hr
    subst hr
    exact wpAny_pure (h _)
mutual
theorem hb_key : ∀ (k : NestedKey) (v : Value) (n : Nat), NestedIs s.heap k v → k.depth ≤ n → HbAt P w n s v
  | .none, _, n, x, _ => by cases x; intro A E Q h; cases n <;> exact wpAny_pure (h _)
  | .num i, _, n, x, _ => by cases x <;> (intro A E Q h; cases n <;> exact wpAny_pure (h _))
  | .text y, _, n, x, _ => by cases x; intro A E Q h; cases n <;> exact wpAny_pure (h _)
  | .tup ks, _, n, x, hn => by
    cases x with
    | tup hg hc hd hk =>
      simp only [NestedKey.depth] at hn
      cases n with
      | zero => omega
      | succ n => exact hb_tup hg hc hd (hb_keys ks _ n hk (by omega))
theorem hb_keys : ∀ (ks : List NestedKey) (vs : List Value) (n : Nat), NestedAll s.heap ks vs → NestedKey.depthAll ks ≤ n → ∀ v ∈ vs, HbAt P w n s v
  | [], _, n, x, _, v, hv => by cases x; cases hv
  | k :: ks, _, n, x, hn, v, hv => by
    cases x with
    | cons x1 x2 =>
      simp only [NestedKey.depthAll] at hn
      rcases List.mem_cons.mp hv with e | hv
      · rw [e]; exact hb_key k _ n x1 (by omega)
      · exact hb_keys ks _ n x2 (by omega) v hv
end
theorem oa_tup {n : Nat} {a : Addr} {o : Obj} {vs : Array Value} {m : Nat} (ho : s.heap.get? a = some o) (hc : o.cls = .type "tuple") (hd : o.data = .seq vs m) (hq : ∀ v ∈ vs.toList, OaAt P w n s v) : OaAt P w (n + 1) s (.ref a) := fun A E Q h => by
  have hT : s.TypeIs (.ref a) "tuple" := ⟨o, ho, hc⟩
  unfold ofAClassStatement
  refine wpAny_bind (wpAny_typeOf hT ?_)
  dsimp only
  have e : (("tuple" : String) == "tuple") = true := by decide
  simp only [e, if_true, Bool.not_true, Bool.false_eq_true, if_false]
  try refine wpAny_bind (wpAny_pure ?_)
  try simp only [Bool.not_true, Bool.false_eq_true, if_false]
  show wpAny _ _ (seqItems? (.ref a) >>= _) _ _ s
  refine wpAny_bind (wpAny_seqItems ho hd ?_)
  dsimp only
  refine wpAny_bind ?_
  show wpAny _ _ (forIn vs _ _) _ _ s
  rw [← Array.forIn_toList]
  refine wpAny_forIn_list _ (fun rest r s' => r.1 = none ∧ s' = s ∧ ∀ v ∈ rest, OaAt P w n s v) _ ?_ ?_ _ _ ⟨rfl, rfl, hq⟩
  · rintro v rest r s' ⟨hr, rfl, hall⟩
    refine wpAny_bind (hall v List.mem_cons_self _ _ _ ?_)
    simp only [Bool.false_eq_true, if_false]
    exact wpAny_pure ⟨rfl, rfl, fun u hu' => hall u (List.mem_cons_of_mem _ hu')⟩
  · rintro ⟨r1, r2⟩ s' ⟨hr, rfl, _⟩
    simp only at hr
    subst hr
    exact wpAny_pure h
mutual
theorem oa_key : ∀ (k : NestedKey) (v : Value) (n : Nat), NestedIs s.heap k v → k.depth ≤ n → OaAt P w n s v
  | .none, _, n, x, _ => by cases x; intro A E Q h; cases n <;> exact wpAny_pure h
  | .num i, _, n, x, _ => by cases x <;> (intro A E Q h; cases n <;> exact wpAny_pure h)
  | .text y, _, n, x, _ => by cases x; intro A E Q h; cases n <;> exact wpAny_pure h
  | .tup ks, _, n, x, hn => by
    cases x with
    | tup hg hc hd hk =>
      simp only [NestedKey.depth] at hn
      cases n with
      | zero => omega
      | succ n => exact oa_tup hg hc hd (oa_keys ks _ n hk (by omega))
theorem oa_keys : ∀ (ks : List NestedKey) (vs : List Value) (n : Nat), NestedAll s.heap ks vs → NestedKey.depthAll ks ≤ n → ∀ v ∈ vs, OaAt P w n s v
  | [], _, n, x, _, v, hv => by cases x; cases hv
  | k :: ks, _, n, x, hn, v, hv => by
    cases x with
    | cons x1 x2 =>
      simp only [NestedKey.depthAll] at hn
      rcases List.mem_cons.mp hv with e | hv
      · rw [e]; exact oa_key k _ n x1 (by omega)
      · exact oa_keys ks _ n x2 (by omega) v hv
end
theorem seenN {k : NestedKey} {b : Addr} {Q : Bool → Shared → Prop} (hk : IsN s.heap k b) {ys : List Value} (hy : ∀ y ∈ ys, ∃ k' c, y = Value.ref c ∧ IsN s.heap k' c) (h : Q false s) :
    wpAny (model P w) A (searchCouldBeSeen (.ref b) ys) Q E s := by
  unfold searchCouldBeSeen
  refine wpAny_bind ?_
  refine wpAny_forIn_list _ (fun rest r s' => r.1 = none ∧ s' = s ∧ ∀ y ∈ rest, ∃ k' c, y = Value.ref c ∧ IsN s.heap k' c) _ ?_ ?_ _ _ ⟨rfl, rfl, hy⟩
  · rintro v rest r s' ⟨hr, rfl, hall⟩
    obtain ⟨k', c, rfl, hc⟩ := hall v List.mem_cons_self
    have rest' : ∀ y ∈ rest, ∃ k' c, y = Value.ref c ∧ IsN s'.heap k' c := fun u hu' => hall u (List.mem_cons_of_mem _ hu')
    dsimp only
    by_cases hv : (b == c || (carriedByValue (.ref b) && carriedByValue (.ref c))) = true
    · refine wp_if_pos hv ?_
      exact wpAny_pure ⟨rfl, rfl, rest'⟩
    · refine wp_if_neg hv ?_
      refine wpAny_bind (quiet_key k _ 8 s' hk.1 hk.2 A E _ ?_)
      simp only [Bool.not_true, Bool.false_eq_true, if_false]
      refine wpAny_bind (quiet_key k' _ 8 s' hc.1 hc.2 A E _ ?_)
      simp only [Bool.not_true, Bool.false_eq_true, if_false]
      refine wpAny_bind (oa_key k _ 8 hk.1 hk.2 A E _ ?_)
      simp only [Bool.false_eq_true, if_false]
      refine wpAny_bind (oa_key k' _ 8 hc.1 hc.2 A E _ ?_)
      simp only [Bool.false_eq_true, if_false]
      exact wpAny_pure ⟨rfl, rfl, rest'⟩
  · rintro ⟨r1, r2⟩ s' ⟨hr, rfl, _⟩
    simp only at hr
    subst hr
    exact wpAny_pure h
end
end G3

namespace G3
open PySem PySem.Spec PyProof.Rows L2
/-- a member's row in the set's table -/
def nrow (w : World) (p : Addr × NestedKey) : Int × Value := (p.2.hash w, .ref p.1)
/-- the set's hashes -/
def nhs (w : World) (L : List (Addr × NestedKey)) : List Int := L.map fun p => p.2.hash w
structure NSet (w : World) (h : Heap) (a : Addr) (L : List (Addr × NestedKey)) (es : Array (Int × Value)) (ep : Nat) (t : SetTable) : Prop where
  ob : ∃ o, h.get? a = some o ∧ o.ExactSet ∧ o.data = .set es ep t
  rows : es.toList = L.map (nrow w)
  tab : TabOk t (nhs w L)
  nd : (L.map (·.2)).Nodup
  tup : ∀ p ∈ L, IsN h p.2 p.1
  led : w.params.followText "set-order" = true ∨ t.led = true
  room : L.length * 5 < t.mask * 3
  few : L.length < 64
section
variable {P : Program} {w : World} {A : Around} {E : Value → Shared → Prop} {s : Shared} {a : Addr} {L : List (Addr × NestedKey)} {es : Array (Int × Value)} {ep : Nat} {t : SetTable}
theorem nsz (h : es.toList = L.map (nrow w)) : es.size = L.length := by
  have z := congrArg List.length h
  rwa [Array.length_toList, List.length_map] at z
theorem nfits (h : es.size = L.length) (d : t.dummies = #[]) (p : t.place.size = L.length) (m : L.length ≤ t.mask) : t.fits es.size = true := by
  unfold SetTable.fits SetTable.fill
  rw [d, Bool.and_eq_true, beq_iff_eq, decide_eq_true_eq]
  show t.place.size = es.size ∧ t.place.size + 0 ≤ t.mask
  omega
theorem NSet.psz (R : NSet w s.heap a L es ep t) : t.place.size = L.length := by
  have z := R.tab.sz
  unfold nhs at z
  rwa [List.length_map] at z
theorem NSet.fits (R : NSet w s.heap a L es ep t) : t.fits es.size = true := nfits (nsz R.rows) R.tab.dm R.psz (by have := R.room; omega)
theorem NSet.entry (R : NSet w s.heap a L es ep t) {i : Nat} {p : Addr × NestedKey} (h : L[i]? = some p) : es[i]? = some (nrow w p) := by
  rw [← Array.getElem?_toList, R.rows, List.getElem?_map, h] <;> rfl
theorem NSet.gw (R : NSet w s.heap a L es ep t) : ¬ t.gaveWay = true := by
  unfold SetTable.gaveWay
  rw [mask_odd R.tab.mok]
  decide
abbrev pth (t : SetTable) (h : Int) (c : Nat) : SetTable.Probe := nth t.mask (runAt t.mask (SetTable.bits h % (t.mask + 1)) (SetTable.bits h)) c
theorem pth_dummy (t : SetTable) (h : Int) (c : Nat) : (pth t h c).dummy = none := by
  have key : ∀ (n : Nat) (p : SetTable.Probe), p.dummy = none → (nth t.mask p n).dummy = none := by
    intro n
    induction n with
    | zero => intro p h; exact h
    | succ n ih =>
      intro p h
      refine ih (adv t.mask p) ?_
      unfold adv
      split <;> exact h
  exact key c _ rfl
theorem pth_add (t : SetTable) (h : Int) (c q : Nat) : nth t.mask (pth t h c) q = pth t h (c + q) := (nth_add t.mask c _ q).symm
/-- the search from the c-th step of the key's way on; K: the first empty place on it -/
theorem nsearch_from (R : NSet w s.heap a L es ep t) {x : Addr} {k : NestedKey} (hx : IsN s.heap k x) (hu : A.units + 8 < cLine) {K : Nat} (hKf : K < 10 * SetTable.turns t.mask)
    (hK : way t.mask (k.hash w) K ∉ t.place.toList) (hKb : ∀ c, c < K → way t.mask (k.hash w) c ∈ t.place.toList) {Q : SetFound → Shared → Prop}
    (hin : k ∈ L.map (·.2) → Q (.there none) s) (hout : k ∉ L.map (·.2) → Q (.free (way t.mask (k.hash w) K) false) s) :
    ∀ (f c : Nat) (stand : Option SetTable.Probe), stand.getD (t.probeStart (k.hash w)) = pth t (k.hash w) c → c ≤ K → K - c < f →
      (∀ (i : Nat) p, L[i]? = some p → p.2 = k → ∃ c', c ≤ c' ∧ c' < K ∧ t.place.toList[i]? = some (way t.mask (k.hash w) c')) →
      wpAny (model P w) A (setSearchFrom a (.ref x) (k.hash w) true f stand) Q E s
  | 0, c, stand, _, _, hf, _ => absurd hf (Nat.not_lt_zero _)
  | f + 1, c, stand, hst, hc, hf, hre => by
    obtain ⟨o, ho, hex, hd⟩ := R.ob
    have jth : ∀ q, (nth t.mask (pth t (k.hash w) c) q).j = way t.mask (k.hash w) (c + q) := fun q => congrArg SetTable.Probe.j (pth_add t _ c q)
    have spec := go_spec t R.tab.ris R.tab.dm (fun i => (es[i]?.map (·.1)).getD 0) (k.hash w) (10 * SetTable.turns t.mask) (K - c) _ (pth_dummy t _ c) (by omega)
      (fun q hq => by rw [jth]; exact hKb (c + q) (by omega)) (by rw [jth, show c + (K - c) = K by omega]; exact hK)
    have hashAt : ∀ (i : Nat) p, L[i]? = some p → (es[i]?.map (·.1)).getD 0 = p.2.hash w := fun i p hp => by rw [R.entry hp] <;> rfl
    rw [setSearchFrom_succ]
    refine wpAny_bind (wpAny_setState_of ho hd R.fits ?_)
    dsimp only
    refine wp_if_neg R.gw ?_
    try refine wpAny_bind (wpAny_pure ?_)
    rcases spec with ⟨q, i, hq, hi, hh, hno, hpr⟩ | ⟨hno, hpr⟩
    · have hpr' : t.probe (fun i => (es[i]?.map (·.1)).getD 0) (k.hash w) (pth t (k.hash w) c) = some (.candidate (nth t.mask (pth t (k.hash w) c) q).j i (nth t.mask (pth t (k.hash w) c) (q + 1))) := hpr
      rw [hst, hpr']
      dsimp only
      rw [pth_add, pth_add]
      rw [jth] at hi
      change wpAny _ _ (if (!t.led) = true then _ else searchRest a (.ref x) (k.hash w) true f es t (way t.mask (k.hash w) (c + q)) i (pth t (k.hash w) (c + (q + 1)))) _ _ _
      obtain ⟨p, hp⟩ : ∃ p, L[i]? = some p := by
        have h1 : i < t.place.toList.length := (List.getElem?_eq_some_iff.mp hi).1
        have h2 := R.psz
        rw [Array.length_toList] at h1
        exact ⟨_, List.getElem?_eq_getElem (by omega)⟩
      have hmem : p ∈ L := List.mem_of_getElem? hp
      have hsl : t.slot (way t.mask (k.hash w) (c + q)) = .live i := slot_live R.tab.ris hi
      have rest : wpAny (model P w) A (searchRest a (.ref x) (k.hash w) true f es t (way t.mask (k.hash w) (c + q)) i (pth t (k.hash w) (c + (q + 1)))) Q E s := by
        unfold searchRest
        rw [R.entry hp]
        dsimp only [nrow]
        refine wpAny_bind (wpAny_holding ((nestedKind P w).eqBool hu (R.tup p hmem) hx ?_))
        refine wpAny_bind (wpAny_setState_of ho hd R.fits ?_)
        dsimp only
        by_cases hkk : p.2 = k
        · refine wp_if_pos (by simp [hkk]) ?_
          exact wpAny_pure (hin (List.mem_map.mpr ⟨p, hmem, hkk⟩))
        · refine wp_if_neg (by simp [hkk]) ?_
          try refine wpAny_bind (wpAny_pure ?_)
          rw [sameMem]
          dsimp only
          simp only [if_true, hsl, R.entry hp, nrow]
          refine wpAny_bind (wpAny_isSame_ref_self (wpAny_bind (wpAny_pure ?_)))
          simp only [if_true]
          refine wp_if_neg (by simp [hkk]) ?_
          refine nsearch_from R hx hu hKf hK hKb hin hout f (c + (q + 1)) _ rfl (by omega) (by omega) fun i0 p0 h0 hk0 => ?_
          obtain ⟨c', a1, a2, a3⟩ := hre i0 p0 h0 hk0
          refine ⟨c', ?_, a2, a3⟩
          rcases Nat.lt_trichotomy c' (c + q) with z | z | z
          · refine absurd ((hashAt i0 p0 h0).trans (congrArg (NestedKey.hash w) hk0)) (hno (c' - c) i0 (by omega) ?_)
            rw [jth, show c + (c' - c) = c' by omega]
            exact a3
          · rw [z] at a3
            have s0 := slot_live R.tab.ris a3
            rw [hsl] at s0
            injection s0 with s0
            rw [← s0, hp] at h0
            exact absurd ((congrArg Prod.snd (Option.some.inj h0)).trans hk0) hkk
          · omega
      by_cases hl : t.led = true
      · refine wp_if_neg (by simp [hl]) ?_
        try refine wpAny_bind (wpAny_pure ?_)
        exact rest
      · refine wp_if_pos (by simp [hl]) ?_
        refine wpAny_bind (seenN hx (fun y hy => ?_) ?_)
        · obtain ⟨e, he, rfl⟩ := List.mem_map.mp hy
          have he2 : e ∈ es.toList := by
            have : e ∈ es ∧ e.1 = k.hash w := by simpa using he
            simpa using this.1
          rw [R.rows] at he2
          obtain ⟨p2, hp2, rfl⟩ := List.mem_map.mp he2
          exact ⟨p2.2, p2.1, rfl, R.tup p2 hp2⟩
        · refine wp_if_neg (by decide) ?_
          try refine wpAny_bind (wpAny_pure ?_)
          exact rest
    · have hpr' : t.probe (fun i => (es[i]?.map (·.1)).getD 0) (k.hash w) (pth t (k.hash w) c) = some (.empty (nth t.mask (pth t (k.hash w) c) (K - c)).j none) := hpr
      rw [hst, hpr']
      dsimp only
      rw [jth, show c + (K - c) = K by omega]
      refine wpAny_pure (hout fun hm => ?_)
      obtain ⟨p0, h0, hk0⟩ := List.mem_map.mp hm
      obtain ⟨i0, hi0, e0⟩ := List.getElem_of_mem h0
      have h00 : L[i0]? = some p0 := by rw [List.getElem?_eq_getElem hi0, e0]
      obtain ⟨c', a1, a2, a3⟩ := hre i0 p0 h00 hk0
      refine hno (c' - c) i0 (by omega) ?_ ((hashAt i0 p0 h00).trans (congrArg (NestedKey.hash w) hk0))
      rw [jth, show c + (c' - c) = c' by omega]
      exact a3
theorem nsearch (R : NSet w s.heap a L es ep t) {x : Addr} {k : NestedKey} (hx : IsN s.heap k x) (hu : A.units + 8 < cLine) {Q : SetFound → Shared → Prop}
    (hin : k ∈ L.map (·.2) → Q (.there none) s)
    (hout : ∀ K, k ∉ L.map (·.2) → way t.mask (k.hash w) K ∉ t.place.toList → (∀ c, c < K → way t.mask (k.hash w) c ∈ t.place.toList) → Q (.free (way t.mask (k.hash w) K) false) s) :
    wpAny (model P w) A (setSearch a (.ref x) (k.hash w) true) Q E s := by
  have hroom := R.room
  have hsz := R.psz
  obtain ⟨K, hKf, hK, hKb⟩ := R.tab.first (by unfold nhs; rw [List.length_map]; omega) (k.hash w)
  have hbig : K < 100000 := by
    have : 10 * SetTable.turns t.mask ≤ 1420 := by
      unfold SetTable.turns
      rcases R.tab.mok with e | e | e <;> omega
    omega
  unfold setSearch
  refine nsearch_from R hx hu hKf hK hKb hin (fun hn => hout K hn hK hKb) 100000 0 none rfl (Nat.zero_le _) (by omega) fun i p hp hk => ?_
  have hi : (nhs w L)[i]? = some (k.hash w) := by unfold nhs; rw [List.getElem?_map, hp, ← hk] <;> rfl
  have hil : i < t.place.toList.length := by
    have h1 : i < L.length := (List.getElem?_eq_some_iff.mp hp).1
    rw [Array.length_toList]
    omega
  have hj := List.getElem?_eq_getElem hil
  obtain ⟨c, hc, e⟩ := R.tab.before hK hi hj
  exact ⟨c, Nat.zero_le _, hc, by rw [hj, e]⟩
end
end G3

namespace G3
open PySem PySem.Spec PyProof.Rows L2
section
variable {P : Program} {w : World} {A : Around} {E : Value → Shared → Prop} {s : Shared} {a : Addr} {L : List (Addr × NestedKey)} {es : Array (Int × Value)} {ep : Nat} {t : SetTable}
/-- members taken in another order -/
theorem nreorder (L : List (Addr × NestedKey)) (es : Array (Int × Value)) (order : Array Nat) (hr : es.toList = L.map (nrow w)) (hp : order.toList.Perm (List.range L.length)) :
    ∃ L2, (order.filterMap (es[·]?)).toList = L2.map (nrow w) ∧ L2.Perm L ∧ nhs w L2 = order.toList.map fun i => (es.map (·.1)).getD i 0 := by
  have hsz := nsz hr
  have ent : ∀ i p, L[i]? = some p → es[i]? = some (nrow w p) := fun i p h => by rw [← Array.getElem?_toList, hr, List.getElem?_map, h] <;> rfl
  have hl : ∀ i ∈ order.toList, ∃ p, L[i]? = some p := fun i hi => ⟨_, List.getElem?_eq_getElem (List.mem_range.mp (hp.mem_iff.mp hi))⟩
  have key : ∀ l : List Nat, (∀ i ∈ l, ∃ p, L[i]? = some p) → l.filterMap (fun i => es[i]?) = (l.filterMap fun i => L[i]?).map (nrow w) ∧ nhs w (l.filterMap fun i => L[i]?) = l.map fun i => (es.map (·.1)).getD i 0 := by
    intro l
    induction l with
    | nil => intro _; exact ⟨rfl, rfl⟩
    | cons i l ih =>
      intro hl
      obtain ⟨p, hi⟩ := hl i List.mem_cons_self
      obtain ⟨e1, e2⟩ := ih fun j hj => hl j (List.mem_cons_of_mem _ hj)
      refine ⟨?_, ?_⟩
      · rw [List.filterMap_cons_some (ent i p hi), List.filterMap_cons_some hi, e1] <;> rfl
      · rw [List.filterMap_cons_some hi, List.map_cons, ← e2]
        have e5 : (es.map (·.1))[i]? = some (p.2.hash w) := by rw [Array.getElem?_map, ent i p hi] <;> rfl
        simp [nhs, Array.getD_eq_getD_getElem?, e5]
  obtain ⟨e1, e2⟩ := key order.toList hl
  refine ⟨order.toList.filterMap fun i => L[i]?, by first | (rw [Array.toList_filterMap]; exact e1) | simpa using e1, ?_, e2⟩
  have h2 : (List.range L.length).filterMap (fun i => L[i]?) = L := by
    refine List.ext_getElem? fun j => ?_
    have k2 : ∀ n, n ≤ L.length → (List.range n).filterMap (fun i => L[i]?) = L.take n := by
      intro n
      induction n with
      | zero => intro _; rfl
      | succ n ih =>
        intro hn
        rw [List.range_succ, List.filterMap_append, ih (Nat.le_of_lt hn), List.take_succ, List.getElem?_eq_getElem hn, List.filterMap_cons_some (List.getElem?_eq_getElem hn)] <;> rfl
    rw [k2 L.length (Nat.le_refl _), List.take_length]
  have h1 := hp.filterMap fun i => L[i]?
  rw [h2] at h1
  exact h1
/-- the table laid anew -/
theorem nrelay {o : Obj} (ho : s.heap.get? a = some o) (hex : o.ExactSet) (hd : o.data = .set es ep t) (hrows : es.toList = L.map (nrow w)) (hsz : t.place.size = L.length) (hdm : t.dummies = #[]) (hfl : L.length ≤ t.mask)
    (nd : (L.map (·.2)).Nodup) (tup : ∀ p ∈ L, IsN s.heap p.2 p.1) (ld : w.params.followText "set-order" = true ∨ t.led = true) (few : L.length < 64) {wanted M : Nat}
    (hw : SetTable.sizeAbove wanted - 1 = M) (hM : MaskOk M) (hw2 : SetTable.sizeAbove wanted ≤ 128) (hn : L.length * 5 < M * 3) {Q : Unit → Shared → Prop}
    (hQ : ∀ h' L' es' ep' t', Heap.SameBut a s.heap h' → NSet w h' a L' es' ep' t' → L'.Perm L → Q () { s with heap := h' }) : wpAny (model P w) A (setRelay a wanted) Q E s := by
  have hsl := nsz hrows
  have hfits := nfits hsl hdm hsz hfl
  obtain ⟨t', order, e, hp, T, em, el, _, ed⟩ := relaid_ok t (hs := es.map (·.1)) (wanted := wanted) hw hM (by rw [Array.size_map, hsl]; omega)
  rw [Array.size_map, hsl] at hp
  obtain ⟨L2, r1, r2, r3⟩ := nreorder (w := w) L es order hrows hp
  rw [← r3] at T
  have hs2 : (order.filterMap (es[·]?)).size = es.size := by rw [nsz r1, r2.length_eq, hsl]
  rw [setRelay_eq]
  refine wpAny_bind (wpAny_setState_of ho hd hfits ?_)
  dsimp only
  refine wp_if_neg (by rw [sizeLine_eq]; omega) ?_
  try refine wpAny_bind (wpAny_pure ?_)
  rw [e]
  dsimp only
  refine wpAny_bind ?_
  refine wp_if_neg (by rw [hs2]; simp) ?_
  try refine wpAny_bind (wpAny_pure ?_)
  refine wpAny_pure ?_
  dsimp only
  refine wpAny_storeSet_of ho hd ?_ (by rw [hs2, hsl, sizeLine_eq]; omega)
  have sb : Heap.SameBut a s.heap (s.heap.update a (Obj.putSet (order.filterMap (es[·]?)) t')) := Heap.SameBut.update ..
  refine hQ _ L2 (order.filterMap (es[·]?)) (ep + 1) t' sb ?_ r2
  exact { ob := ⟨_, store_at ho hd, ⟨hex.1, hex.2.1, hex.2.2⟩, rfl⟩, rows := r1, tab := T, nd := (r2.map (·.2)).nodup_iff.mpr nd, tup := fun p hpm => (tup p (r2.mem_iff.mp hpm)).same ho hd sb, led := by rw [el]; exact ld, room := by rw [r2.length_eq, em]; exact hn, few := by rw [r2.length_eq]; exact few }
/-- a member more -/
theorem nadd (R : NSet w s.heap a L es ep t) {x : Addr} {k : NestedKey} (hx : IsN s.heap k x) (hu : A.units + 8 < cLine) (hfew : L.length + 1 < 64) {Q : Bool → Shared → Prop}
    (hQ : ∀ b h' L' es' ep' t', Heap.SameBut a s.heap h' → NSet w h' a L' es' ep' t' → (k ∈ L.map (·.2) → L' = L) → (k ∉ L.map (·.2) → L'.Perm ((x, k) :: L)) → Q b { s with heap := h' }) :
    wpAny (model P w) A (setAddHashed a (.ref x) (k.hash w)) Q E s := by
  obtain ⟨o, ho, hex, hd⟩ := R.ob
  have hsl := nsz R.rows
  have hroom := R.room
  have hpz := R.psz
  unfold setAddHashed
  refine wpAny_holding ?_
  rw [show (100000 : Nat) = 99999 + 1 from rfl, setAddHashedIn_succ]
  refine wpAny_bind (wpAny_setState_of ho hd R.fits ?_)
  dsimp only
  refine wp_if_neg (by simp [byScan, Value.scannable]) ?_
  try refine wpAny_bind (wpAny_pure ?_)
  refine wpAny_bind (nsearch R hx hu (fun hm => ?_) fun K hm hK hb => ?_)
  · dsimp only
    exact wpAny_pure (hQ false s.heap L es ep t (Heap.SameBut.refl a s.heap) R (fun _ => rfl) fun z => absurd hm z)
  · dsimp only
    refine wpAny_bind (wpAny_setState_of ho hd R.fits ?_)
    dsimp only
    obtain ⟨q1, q2, q3, q4, q5, _, _, _, q9⟩ := R.tab.put hK hb
    generalize hpt : t.put (way t.mask (k.hash w) K) = pt at q1 q3 q4 q5 q9 ⊢
    obtain ⟨t0, p⟩ := pt
    dsimp only at q1 q3 q4 q5 q9 ⊢
    subst q1
    have hin : (SetTable.insertAt es (SetTable.below t.place (way t.mask (k.hash w) K)) (k.hash w, Value.ref x)).toList = (L.take (SetTable.below t.place (way t.mask (k.hash w) K)) ++ (x, k) :: L.drop (SetTable.below t.place (way t.mask (k.hash w) K))).map (nrow w) := by
      rw [SetTable.toList_insertAt, R.rows, List.map_append, List.map_cons, List.map_take, List.map_drop] <;> rfl
    generalize SetTable.below t.place (way t.mask (k.hash w) K) = p at q2 q3 hin ⊢
    have pm := put_perm L p (x, k)
    have hlen : (L.take p ++ (x, k) :: L.drop p).length = L.length + 1 := pm.length_eq
    have hhs : nhs w (L.take p ++ (x, k) :: L.drop p) = (nhs w L).take p ++ k.hash w :: (nhs w L).drop p := by
      unfold nhs
      rw [List.map_append, List.map_cons, List.map_take, List.map_drop]
    rw [← hhs] at q3
    have nd1 : ((L.take p ++ (x, k) :: L.drop p).map (·.2)).Nodup := by
      refine (pm.map (·.2)).nodup_iff.mpr ?_
      rw [List.map_cons]
      exact List.nodup_cons.mpr ⟨hm, R.nd⟩
    have hes := (nsz hin).trans hlen
    generalize SetTable.insertAt es p (k.hash w, Value.ref x) = es1 at hin hes ⊢
    generalize L.take p ++ (x, k) :: L.drop p = L1 at pm hlen q3 nd1 hin
    have q9' : t0.fill = L.length + 1 := by rw [q9]; unfold nhs; rw [List.length_map]
    have cont : ∀ t1 : SetTable, TabOk t1 (nhs w L1) → t1.mask = t.mask → t1.led = t.led → t1.fill = L.length + 1 →
        wpAny (model P w) A (do
          storeSet a es1 t1
          if (!false && t1.tooFull) = true then do
            setRelay a (SetTable.grown (es.size + 1))
            pure true
          else pure true) Q E s := fun t1 T1 m1 l1 f1 => by
      refine wpAny_bind (wpAny_storeSet_of ho hd ?_ (by rw [hes, sizeLine_eq]; omega))
      have sb : Heap.SameBut a s.heap (s.heap.update a (Obj.putSet es1 t1)) := Heap.SameBut.update ..
      have ho1 := store_at (es' := es1) (t' := t1) ho hd
      generalize s.heap.update a (Obj.putSet es1 t1) = h1 at sb ho1 ⊢
      have tup1 : ∀ p ∈ L1, IsN h1 p.2 p.1 := fun p hp => by
        rcases List.mem_cons.mp (pm.mem_iff.mp hp) with e | hp
        · rw [e]; exact hx.same ho hd sb
        · exact (R.tup p hp).same ho hd sb
      have ld1 : w.params.followText "set-order" = true ∨ t1.led = true := by rw [l1]; exact R.led
      have hz1 : t1.place.size = L1.length := by
        have z := T1.sz
        unfold nhs at z
        rwa [List.length_map] at z
      by_cases hf : t1.tooFull = true
      · first
          | (refine wpAny_bind ?_; refine wp_if_pos (by simp [hf]) ?_)
          | (refine wp_if_pos (by simp [hf]) ?_; refine wpAny_bind ?_)
        have hfull : (L.length + 1) * 5 ≥ t1.mask * 3 := by
          have h := hf
          unfold SetTable.tooFull at h
          rw [decide_eq_true_eq, f1] at h
          exact h
        rw [hsl]
        have cases2 : (t.mask = 7 ∧ L.length = 4) ∨ (t.mask = 31 ∧ L.length = 18) := by
          rcases R.tab.mok with e | e | e
          · left; rw [m1, e] at hfull; rw [e] at hroom; exact ⟨e, by omega⟩
          · right; rw [m1, e] at hfull; rw [e] at hroom; exact ⟨e, by omega⟩
          · exfalso; rw [m1, e] at hfull; omega
        have go : ∀ M, SetTable.sizeAbove (SetTable.grown (L.length + 1)) - 1 = M → MaskOk M → SetTable.sizeAbove (SetTable.grown (L.length + 1)) ≤ 128 → (L.length + 1) * 5 < M * 3 →
            wpAny (model P w) A (setRelay a (SetTable.grown (L.length + 1))) (fun _ s' => wpAny (model P w) A (pure true) Q E s') E { s with heap := h1 } := fun M h1' h2' h3' h4' => by
          refine nrelay (s := { s with heap := h1 }) ho1 ⟨hex.1, hex.2.1, hex.2.2⟩ rfl hin hz1 T1.dm (by rw [hlen, m1]; rcases cases2 with ⟨e, e2⟩ | ⟨e, e2⟩ <;> omega) nd1 tup1 ld1 (by rw [hlen]; exact hfew) h1' h2' h3' (by rw [hlen]; exact h4') ?_
          intro h2 L2 es2 ep2 t2 sb2 R2 pm2
          exact wpAny_pure (hQ true h2 L2 es2 ep2 t2 (sb.trans sb2) R2 (fun z => absurd z hm) fun _ => pm2.trans pm)
        rcases cases2 with ⟨_, e2⟩ | ⟨_, e2⟩
        · exact go 31 (by rw [e2, size_20]) (.inr (.inl rfl)) (by rw [e2, size_20]; decide) (by omega)
        · exact go 127 (by rw [e2, size_76]) (.inr (.inr rfl)) (by rw [e2, size_76]; decide) (by omega)
      · first
          | refine wp_if_neg (by simp [hf]) ?_
          | (refine wpAny_bind ?_; refine wp_if_neg (by simp [hf]) ?_; refine wpAny_pure ?_)
        refine wpAny_pure (hQ true h1 L1 es1 (ep + 1) t1 sb { ob := ⟨_, ho1, ⟨hex.1, hex.2.1, hex.2.2⟩, rfl⟩, rows := hin, tab := T1, nd := nd1, tup := tup1, led := ld1, room := ?_, few := by rw [hlen]; exact hfew } (fun z => absurd z hm) fun _ => pm)
        have h := hf
        unfold SetTable.tooFull at h
        rw [decide_eq_true_eq, f1] at h
        rw [hlen]
        omega
    have cont2 : ∀ b : Bool, wpAny (model P w) A (do
          storeSet a es1 (if b = true then t0 else { t0 with plain := false })
          if (!false && (if b = true then t0 else { t0 with plain := false }).tooFull) = true then do
            setRelay a (SetTable.grown (es.size + 1))
            pure true
          else pure true) Q E s := fun b => by
      cases b with
      | true => exact cont t0 q3 q4 q5 q9'
      | false => exact cont { t0 with plain := false } ⟨q3.ris, q3.dm, q3.sz, q3.mok, q3.bd, q3.reach⟩ q4 q5 q9'
    by_cases hp : t0.plain = true
    · refine wp_if_pos hp ?_
      exact wpAny_bind (hb_key k _ 8 hx.1 hx.2 A E _ fun b => cont2 b)
    · refine wp_if_neg hp ?_
      exact wpAny_bind (wpAny_pure (cont2 true))
/-- a new set -/
theorem nset_fresh {h : Heap} {a : Addr} (ho : h.get? a = some { cls := .type "set", dict := none, data := .set #[] 0 (.fresh 0 0 (!w.params.followText "set-order")) }) : NSet w h a [] #[] 0 (.fresh 0 0 (!w.params.followText "set-order")) where
  ob := ⟨_, ho, ⟨rfl, rfl, rfl⟩, rfl⟩
  rows := rfl
  tab := ⟨List.Pairwise.nil, rfl, rfl, .inl rfl, fun x hx => (by cases hx), fun i h j hi => (by simp [nhs] at hi)⟩
  nd := List.nodup_nil
  tup := fun p hp => (by cases hp)
  led := by
    show _ ∨ (!w.params.followText "set-order") = true
    cases w.params.followText "set-order"
    · exact .inr rfl
    · exact .inl rfl
  room := by
    show 0 * 5 < 7 * 3
    decide
  few := by
    show 0 < 64
    decide
end
end G3

namespace G3
open PySem PySem.Spec PyProof.Rows L2
section
variable {P : Program} {w : World} {A : Around} {E : Value → Shared → Prop} {s : Shared}
def newSet (w : World) : Obj := { cls := .type "set", dict := none, data := .set #[] 0 (.fresh 0 0 (!w.params.followText "set-order")) }
def Kept (h h' : Heap) : Prop := ∀ b o, h.get? b = some o → h'.get? b = some o
/-- what set.update's loop makes of the items, put into the new set at S: Φ -/
def SetLoop (P : Program) (w : World) (u : Nat) (h0 : Heap) (S : Addr) (items : Array Value) (Φ : Heap → Prop) : Prop :=
  ∀ (A' : Around) (I : Addr) (fp wr : List Addr) (Gr : Array GenState → Array GenState → Prop) (St : Nat → Shared → Prop) (R : Result → Shared → Prop) (s1 : Shared), A'.in1.units = u →
    WalksS P w A'.in1 I fp wr Gr items.size (fun i v => items[i]? = some v) St → S ∉ fp → (∀ b ∈ wr, h0.get? b = none) → St 0 s1 → Kept h0 s1.heap → s1.heap.get? S = some (newSet w) →
    (∀ s', Moved (S :: wr) Gr s1 s' → Φ s'.heap → Kept h0 s'.heap → R (.ok (.ret .none)) s') → codeAny (model P w) A' (.builtin "set.update.loop" ⟨[.ref S, .ref I], []⟩) R s1
theorem none_from {h : Heap} {b : Addr} (hb : h.objs.size ≤ b) : h.get? b = none := by
  cases q : h.get? b with
  | none => rfl
  | some o => exact absurd (Nat.lt_of_lt_of_le (Heap.lt_size q) hb) (Nat.lt_irrefl _)

set_option maxHeartbeats 3200000 in
theorem call_setT {l : Addr} {items : Array Value} {Φ : Heap → Prop} {Q : Value → Shared → Prop} (hh : A.handled = none) (hl : s.heap.IsTuple l items) (loop : SetLoop P w (A.units + 3) s.heap s.heap.objs.size items Φ)
    (h : ∀ (h' : Heap) (tk : Nat), Φ h' → Kept s.heap h' → Q (.ref s.heap.objs.size) { s with heap := h', toks := tk }) :
    wpAny (model P w) A (call (.type "set") [.ref l]) Q E s := by
  obtain ⟨c, tl, hmro⟩ := PySem.F.called_set.mro
  have hmade := PySem.F.called_set.made
  have hsub := PySem.F.called_set.sub
  refine wpAny_call (codeAny_of_tree ?_)
  show wpAny _ _ (callAny (.type "set") _) _ _ _
  refine wpAny_pure ⟨Code.quiet_builtin _ (by decide +kernel), codeAny_builtin PySem.F.entry_type_call ?_⟩
  rw [Around.under_plain (weight_type_call_type "set" [.ref l] []) rfl]
  have h1 := PySem.F.called_set.notType
  have h2 := PySem.F.called_set.canCreate
  have hct := PySem.F.typeCall_set_1 (.ref l)
  repeat (any_goals (first | assumption | wp_step))

  refine codeAny_mono (code_set_led1 (.ref l) (E := E) (Q₁ := fun obj s₁ => obj = .ref s.heap.objs.size ∧ s₁ = { s with heap := s.heap.push (newSet w) }) ⟨rfl, rfl⟩) fun r s₁ hr => ?_
  cases r with
  | error e => exact hr
  | ok fl =>
    cases fl with
    | ret obj =>
      obtain ⟨rfl, rfl⟩ := hr
      have hS : (s.heap.push (newSet w)).get? s.heap.objs.size = some (newSet w) := Heap.get?_push_size _ rfl
      have hT : Shared.TypeIs { s with heap := s.heap.push (newSet w) } (.ref s.heap.objs.size) "set" := ⟨_, hS, rfl⟩
      have hli := PySem.F.called_set.init.lookup
      have hbi := PySem.F.called_set.init.bind (.ref s.heap.objs.size)
      repeat (any_goals (first | assumption | wp_step))

      refine codeAny_mono (codeAny_call_builtin (R := wants (fun r s₂ => r = .none ∧ ∃ h' tk, s₂ = { s with heap := h', toks := tk } ∧ Φ h' ∧ Kept s.heap h') E) PySem.F.called_set.init.plain PySem.F.entry_set_init (check_set_init_1 hT ?_)) fun r₂ s₂ hr₂ => ?_
      · obtain ⟨ol, hol, hcl, nl, hdl⟩ := hl
        obtain ⟨ocls, odict, odata, oslots⟩ := ol
        simp only at hcl hdl
        subst hcl; subst hdl
        have hol' : (s.heap.push (newSet w)).get? l = some { cls := .type "tuple", dict := odict, data := .seq items nl, slots := oslots } := Heap.get?_push_of_some _ hol
        have hsls := PySem.F.sub_tuple_set
        have hslf := PySem.F.sub_tuple_frozenset
        have hne : (Value.type "tuple" == Value.type "dict") = false := by decide
        have hl1 : (s.heap.push (newSet w)).IsTuple l items := ⟨_, hol', rfl, nl, rfl⟩
        unfold Builtin.«set.__init__» noKeywords Builtin.Frozenset.updateFrom
        generalize hPI : pyIter = PI
        wp_walk
        subst hPI

        refine wpAny_pyIter_tuple hl1 ?_
        refine wpAny_bind (wpAny_runValue ?_)
        have hlS : l < s.heap.objs.size := Heap.lt_size hol
        have hh3 : A.in1.in1.in1.handled = none := by simp [hh]
        have hneI : l ≠ (s.heap.push (newSet w)).objs.size := by
          rw [Heap.size_push]; exact Nat.ne_of_lt (Nat.lt_succ_of_lt hlS)
        have hSf : s.heap.objs.size ∉ [(s.heap.push (newSet w)).objs.size, l] := by
          rw [Heap.size_push]; simp only [List.mem_cons, List.mem_singleton, List.not_mem_nil, or_false, not_or]
          exact ⟨Nat.ne_of_lt (Nat.lt_succ_self _), Nat.ne_of_gt hlS⟩
        refine loop _ _ _ _ _ _ _ _ rfl ((Walks.tuple hh3 _ l hneI items).toS) hSf (fun b hb => none_from (by
            rw [List.mem_singleton.mp hb, Heap.size_push]
            exact Nat.le_succ _)) ⟨⟨_, Heap.get?_push_size _ rfl, rfl, rfl⟩, (hl1.push _)⟩ (fun b o e => Heap.get?_push_of_some _ (Heap.get?_push_of_some _ e)) (Heap.get?_push_of_some _ hS) ?hR
        case hR =>
          intro s' hm hΦ hkp
          obtain ⟨h', g', d', tk', os'⟩ := s'
          have eg : g' = s.gens := hm.gens
          have ed : d' = s.drawn := hm.drawn
          have eo : os' = s.os := hm.os
          subst eg; subst ed; subst eo
          show wpAny _ _ _ _ _ _
          refine wpAny_pure ?_
          show wpAny _ _ (ret Value.none) _ _ _
          exact wpAny_pure ⟨rfl, h', tk', rfl, hΦ, hkp⟩

      · cases r₂ with
        | error e => exact hr₂
        | ok fl₂ =>
          cases fl₂ with
          | ret r =>
            obtain ⟨rfl, h', tk, rfl, hS', hk'⟩ := hr₂
            repeat (any_goals (first | assumption | wp_step))
            exact h _ _ hS' hk'
          | _ => exact hr₂.elim
    | _ => exact hr.elim

set_option maxHeartbeats 3200000 in
theorem call_setL {l : Addr} {items : Array Value} {Φ : Heap → Prop} {Q : Value → Shared → Prop} (hh : A.handled = none) (hl : s.heap.IsList l items) (loop : SetLoop P w (A.units + 3) s.heap s.heap.objs.size items Φ)
    (h : ∀ (h' : Heap) (tk : Nat), Φ h' → Kept s.heap h' → Q (.ref s.heap.objs.size) { s with heap := h', toks := tk }) :
    wpAny (model P w) A (call (.type "set") [.ref l]) Q E s := by
  obtain ⟨c, tl, hmro⟩ := PySem.F.called_set.mro
  have hmade := PySem.F.called_set.made
  have hsub := PySem.F.called_set.sub
  refine wpAny_call (codeAny_of_tree ?_)
  show wpAny _ _ (callAny (.type "set") _) _ _ _
  refine wpAny_pure ⟨Code.quiet_builtin _ (by decide +kernel), codeAny_builtin PySem.F.entry_type_call ?_⟩
  rw [Around.under_plain (weight_type_call_type "set" [.ref l] []) rfl]
  have h1 := PySem.F.called_set.notType
  have h2 := PySem.F.called_set.canCreate
  have hct := PySem.F.typeCall_set_1 (.ref l)
  repeat (any_goals (first | assumption | wp_step))

  refine codeAny_mono (code_set_led1 (.ref l) (E := E) (Q₁ := fun obj s₁ => obj = .ref s.heap.objs.size ∧ s₁ = { s with heap := s.heap.push (newSet w) }) ⟨rfl, rfl⟩) fun r s₁ hr => ?_
  cases r with
  | error e => exact hr
  | ok fl =>
    cases fl with
    | ret obj =>
      obtain ⟨rfl, rfl⟩ := hr
      have hS : (s.heap.push (newSet w)).get? s.heap.objs.size = some (newSet w) := Heap.get?_push_size _ rfl
      have hT : Shared.TypeIs { s with heap := s.heap.push (newSet w) } (.ref s.heap.objs.size) "set" := ⟨_, hS, rfl⟩
      have hli := PySem.F.called_set.init.lookup
      have hbi := PySem.F.called_set.init.bind (.ref s.heap.objs.size)
      repeat (any_goals (first | assumption | wp_step))

      refine codeAny_mono (codeAny_call_builtin (R := wants (fun r s₂ => r = .none ∧ ∃ h' tk, s₂ = { s with heap := h', toks := tk } ∧ Φ h' ∧ Kept s.heap h') E) PySem.F.called_set.init.plain PySem.F.entry_set_init (check_set_init_1 hT ?_)) fun r₂ s₂ hr₂ => ?_
      · obtain ⟨ol, hol, hcl, nl, hdl⟩ := hl
        obtain ⟨ocls, odict, odata, oslots⟩ := ol
        simp only at hcl hdl
        subst hcl; subst hdl
        have hol' : (s.heap.push (newSet w)).get? l = some { cls := .type "list", dict := odict, data := .seq items nl, slots := oslots } := Heap.get?_push_of_some _ hol
        have hsls := PySem.F.sub_list_set
        have hslf := PySem.F.sub_list_frozenset
        have hne : (Value.type "list" == Value.type "dict") = false := by decide
        have hl1 : (s.heap.push (newSet w)).IsList l items := ⟨_, hol', rfl, nl, rfl⟩
        unfold Builtin.«set.__init__» noKeywords Builtin.Frozenset.updateFrom
        generalize hPI : pyIter = PI
        wp_walk
        subst hPI

        refine wpAny_pyIter_list hl1 ?_
        refine wpAny_bind (wpAny_runValue ?_)
        have hlS : l < s.heap.objs.size := Heap.lt_size hol
        have hh3 : A.in1.in1.in1.handled = none := by simp [hh]
        have hneI : l ≠ (s.heap.push (newSet w)).objs.size := by
          rw [Heap.size_push]; exact Nat.ne_of_lt (Nat.lt_succ_of_lt hlS)
        have hSf : s.heap.objs.size ∉ [(s.heap.push (newSet w)).objs.size, l] := by
          rw [Heap.size_push]; simp only [List.mem_cons, List.mem_singleton, List.not_mem_nil, or_false, not_or]
          exact ⟨Nat.ne_of_lt (Nat.lt_succ_self _), Nat.ne_of_gt hlS⟩
        refine loop _ _ _ _ _ _ _ _ rfl ((Walks.list hh3 _ l hneI items).toS) hSf (fun b hb => none_from (by
            rw [List.mem_singleton.mp hb, Heap.size_push]
            exact Nat.le_succ _)) ⟨⟨_, Heap.get?_push_size _ rfl, rfl, rfl⟩, (hl1.push _)⟩ (fun b o e => Heap.get?_push_of_some _ (Heap.get?_push_of_some _ e)) (Heap.get?_push_of_some _ hS) ?hR
        case hR =>
          intro s' hm hΦ hkp
          obtain ⟨h', g', d', tk', os'⟩ := s'
          have eg : g' = s.gens := hm.gens
          have ed : d' = s.drawn := hm.drawn
          have eo : os' = s.os := hm.os
          subst eg; subst ed; subst eo
          show wpAny _ _ _ _ _ _
          refine wpAny_pure ?_
          show wpAny _ _ (ret Value.none) _ _ _
          exact wpAny_pure ⟨rfl, h', tk', rfl, hΦ, hkp⟩

      · cases r₂ with
        | error e => exact hr₂
        | ok fl₂ =>
          cases fl₂ with
          | ret r =>
            obtain ⟨rfl, h', tk, rfl, hS', hk'⟩ := hr₂
            repeat (any_goals (first | assumption | wp_step))
            exact h _ _ hS' hk'
          | _ => exact hr₂.elim
    | _ => exact hr.elim
end
end G3

namespace G3
open PySem PySem.Spec PyProof.Rows L2
section
variable {P : Program} {w : World} {A : Around} {E : Value → Shared → Prop} {s : Shared}

/-- what the set has got from the first i items -/
structure NGot (ks : List (Addr × NestedKey)) (i : Nat) (L : List (Addr × NestedKey)) : Prop where
  sub : ∀ p ∈ L, p ∈ ks.take i
  all : ∀ p ∈ ks.take i, p.2 ∈ L.map (·.2)
  len : L.length ≤ i
theorem NGot.next {ks L L' : List (Addr × NestedKey)} {i : Nat} {x : Addr × NestedKey} (g : NGot ks i L) (h : ks[i]? = some x) (c1 : x.2 ∈ L.map (·.2) → L' = L) (c2 : x.2 ∉ L.map (·.2) → L'.Perm ((x.1, x.2) :: L)) : NGot ks (i + 1) L' := by
  have tk : ks.take (i + 1) = ks.take i ++ [x] := by rw [List.take_succ, h] <;> rfl
  by_cases c : x.2 ∈ L.map (·.2)
  · rw [c1 c]
    refine ⟨fun p hp => by rw [tk]; exact List.mem_append_left _ (g.sub p hp), fun p hp => ?_, Nat.le_succ_of_le g.len⟩
    rw [tk] at hp
    rcases List.mem_append.mp hp with z | z
    · exact g.all p z
    · rw [List.mem_singleton.mp z]; exact c
  · have pm := c2 c
    refine ⟨fun p hp => ?_, fun p hp => ?_, by rw [pm.length_eq, List.length_cons]; exact Nat.succ_le_succ g.len⟩
    · rw [tk]
      rcases List.mem_cons.mp (pm.mem_iff.mp hp) with e | z
      · rw [e]; exact List.mem_append_right _ (List.mem_singleton.mpr rfl)
      · exact List.mem_append_left _ (g.sub p z)
    · rw [(pm.map (·.2)).mem_iff, List.map_cons]
      rw [tk] at hp
      rcases List.mem_append.mp hp with z | z
      · exact List.mem_cons_of_mem _ (g.all p z)
      · rw [List.mem_singleton.mp z]; exact List.mem_cons_self
theorem NSet.keep {h h' : Heap} {a : Addr} {L : List (Addr × NestedKey)} {es : Array (Int × Value)} {ep : Nat} {t : SetTable} (R : NSet w h a L es ep t) (ha : ∀ o, h.get? a = some o → h'.get? a = some o) (ht : ∀ p ∈ L, IsN h' p.2 p.1) : NSet w h' a L es ep t := by
  obtain ⟨o, ho, r⟩ := R.ob
  exact ⟨⟨o, ha o ho, r⟩, R.rows, R.tab, R.nd, ht, R.led, R.room, R.few⟩
theorem nloop {h0 : Heap} {S : Addr} {items : Array Value} {u : Nat} (ks : List (Addr × NestedKey)) (hit : items.toList = ks.map fun p => Value.ref p.1) (hk : ∀ p ∈ ks, IsN h0 p.2 p.1) (hfew : ks.length < 64) (hS0 : h0.get? S = none) (hu : u + 8 < cLine) :
    SetLoop P w u h0 S items (fun h => ∃ L es ep t, NSet w h S L es ep t ∧ NGot ks ks.length L) := by
  intro A' I fp wr Gr St R s1 hA W hSf hw0 hst hkp hS hR
  have hn : items.size = ks.length := by
    have q := congrArg List.length hit
    rw [Array.length_toList, List.length_map] at q
    exact q
  have hval : ∀ (i : Nat) (v : Value), items[i]? = some v → ∃ p, ks[i]? = some p ∧ v = .ref p.1 := fun i v hv => by
    have q : items.toList[i]? = some v := by rw [Array.getElem?_toList]; exact hv
    rw [hit, List.getElem?_map] at q
    cases hq : ks[i]? with
    | none => rw [hq] at q; cases q
    | some p =>
      rw [hq] at q
      exact ⟨p, rfl, (Option.some.inj q).symm⟩
  have hSw : S ∉ wr := fun h => hSf (W.sub _ h)
  have hsub : ∀ b ∈ wr, b ∈ S :: wr := fun b hb => List.mem_cons_of_mem _ hb
  have keepM : ∀ {s s' : Shared}, Moved wr Gr s s' → Kept h0 s.heap → Kept h0 s'.heap := fun hm hkp b o e =>
    hm.heap b o (fun hb => by rw [hw0 b hb] at e; cases e) (hkp b o e)
  suffices go : ∀ (k i : Nat) (s : Shared), items.size - i = k → i ≤ items.size → St i s → Kept h0 s.heap → (∃ L es ep t, NSet w s.heap S L es ep t ∧ NGot ks i L) →
      (∀ s', Moved (S :: wr) Gr s s' → (∃ L es ep t, NSet w s'.heap S L es ep t ∧ NGot ks ks.length L) → Kept h0 s'.heap → R (.ok (.ret .none)) s') →
      codeAny (model P w) A' (.builtin "set.update.loop" ⟨[.ref S, .ref I], []⟩) R s by
    exact go (items.size - 0) 0 s1 rfl (Nat.zero_le _) hst hkp ⟨[], #[], 0, _, nset_fresh hS, ⟨fun p h => (by cases h), fun p h => (by simp at h), Nat.le_refl _⟩⟩ hR
  intro k
  induction k with
  | zero =>
    intro i s hk' hi hst hkp ⟨L, es, ep, t, hS, g⟩ hR
    have hin : i = items.size := by omega
    subst hin
    refine codeAny_builtin PyProof.Rows.F.entry_set_update_loop ?_
    rw [Around.under_plainId PyProof.Rows.F.plain_set_update_loop _]
    show wpAny _ A'.in1 (pyNext (.ref I) >>= _) _ _ s
    refine wpAny_bind (W.done s _ _ hst fun s' hm => ?_)
    show wpAny _ A'.in1 (ret Value.none) _ _ s'
    have hkp' := keepM hm hkp
    rw [hn] at g
    exact wpAny_pure (hR s' (hm.mono hsub) ⟨L, es, ep, t, hS.keep (fun o e => hm.heap S o hSw e) fun p hp => (hk p (List.mem_of_mem_take (g.sub p hp))).keep hkp', g⟩ hkp')
  | succ k ih =>
    intro i s hk' hi hst hkp ⟨L, es, ep, t, hS, g⟩ hR
    have hlt : i < items.size := by omega
    refine codeAny_builtin PyProof.Rows.F.entry_set_update_loop ?_
    rw [Around.under_plainId PyProof.Rows.F.plain_set_update_loop _]
    show wpAny _ A'.in1 (pyNext (.ref I) >>= _) _ _ s
    refine wpAny_bind (W.item i s _ _ hlt hst fun v s' hP hst' hm => ?_)
    obtain ⟨p, hp, rfl⟩ := hval i v hP
    have hkp' := keepM hm hkp
    have hS' : NSet w s'.heap S L es ep t := hS.keep (fun o e => hm.heap S o hSw e) fun q hq => (hk q (List.mem_of_mem_take (g.sub q hq))).keep hkp'
    have hx : IsN s'.heap p.2 p.1 := (hk p (List.mem_of_getElem? hp)).keep hkp'
    show wpAny _ A'.in1 (holding [Value.ref p.1] (setAdd S (.ref p.1)) >>= _) _ _ s'
    refine wpAny_bind (wpAny_holding ?_)
    unfold setAdd
    refine wpAny_holding ?_
    refine wpAny_bind ((nestedKind P w).pyHash (show A'.in1.units + 8 < cLine by omega) hx ?_)
    refine nadd (s := { s' with toks := s'.toks + p.2.draws }) hS' hx (by omega) (by have := g.len; omega) fun b h' L' es' ep' t' hsb hS2 c1 c2 => ?_
    have g' : NGot ks (i + 1) L' := g.next hp c1 c2
    have hS0' : Kept h0 h' := fun b o e => (hsb.2 b (fun z => by rw [z, hS0] at e; cases e)).trans (hkp' b o e)
    refine wpAny_pure ⟨plainId_quiet PyProof.Rows.F.plain_set_update_loop _, ih (i + 1) _ (by omega) hlt (W.frame _ s' _ _ hst' (Nat.le_add_right _ _) fun b hb o e => ?_) hS0' ⟨L', es', ep', t', hS2, g'⟩ fun s'' hm'' hS'' hkp'' => ?_⟩
    · rw [hsb.2 b (fun h : b = S => hSf (by rw [← h]; exact hb))]; exact e
    · refine hR s'' (Moved.trans W.gtrans ((hm.mono hsub).then_heap (Nat.le_add_right _ _) fun b o hb e => ?_) hm'') hS'' hkp''
      rw [hsb.2 b (fun h : b = S => hb (by rw [h]; exact List.mem_cons_self))]; exact e
end
end G3

namespace G3
open PySem PySem.Spec PyProof.Rows L2
/-! ### len(set(x)), x a tuple of tuples; sorted(set(x)), x a list of numbers or of texts -/
mutual
/-- a value as a key -/
def toK : Dv → Option NestedKey
  | .non => some .none
  | .bl b => some (.num (if b = true then 1 else 0))
  | .int i => some (.num i)
  | .str x => some (.text x)
  | .tup ds => (toKs ds).map .tup
  | _ => none
def toKs : List Dv → Option (List NestedKey)
  | [] => some []
  | d :: ds => match toK d with
    | none => none
    | some k => (toKs ds).map (k :: ·)
end
section
variable {X : Cx} {pins : List (Addr × Obj)} {σ : L2.St} {s : Shared} {wd : Wd}
mutual
theorem rp_nested (I : L2.Inv X pins σ wd.H s) (r : Rel X.K wd) : ∀ (d : Dv) (v : V) (u : Value) (k : NestedKey), Rp X.K wd d v → L2.RelV v u → toK d = some k → NestedIs s.heap k u
  | .non, _, u, k, p, ru, e => by
    cases p; cases e
    obtain rfl : u = Value.none := ru
    exact .none
  | .bl b, _, u, k, p, ru, e => by
    cases p; cases e
    obtain rfl : u = Value.bool b := ru
    exact .bool rfl
  | .int i, _, u, k, p, ru, e => by
    cases p; cases e
    obtain ⟨t, rfl⟩ := ru
    exact .int i t
  | .str x, _, u, k, p, ru, e => by
    cases p; cases e
    obtain ⟨t, rfl⟩ := ru
    exact .text x t
  | .tup ds, _, u, k, p, ru, e => by
    cases p with
    | @tup a xs _ t ra =>
      simp only [toK, Option.map_eq_some_iff] at e
      obtain ⟨ks, e1, rfl⟩ := e
      obtain rfl : u = Value.ref a := ru
      obtain ⟨its, rv, ⟨o, ho, hc, n, hd⟩, _⟩ := I.tuple (r.sqT t)
      exact .tup ho hc hd (by simpa using rp_nesteds I r ds xs its ks ra rv e1)
  | .lst _, _, _, _, _, _, e => by cases e
  | .ref _, _, _, _, _, _, e => by cases e
  | .obj _, _, _, _, _, _, e => by cases e
  | .ty _, _, _, _, _, _, e => by cases e
theorem rp_nesteds (I : L2.Inv X pins σ wd.H s) (r : Rel X.K wd) : ∀ (ds : List Dv) (vs : List V) (us : List Value) (ks : List NestedKey), RpAll X.K wd ds vs → L2.Vals vs us → toKs ds = some ks → NestedAll s.heap ks us
  | [], _, _, ks, p, ru, e => by
    cases p; cases ru; cases e
    exact .nil
  | d :: ds, _, _, ks, p, ru, e => by
    cases p with
    | cons p1 p2 =>
      cases ru with
      | cons r1 r2 =>
        simp only [toKs] at e
        cases h : toK d with
        | none => rw [h] at e; cases e
        | some k =>
          rw [h] at e
          simp only [Option.map_eq_some_iff] at e
          obtain ⟨ks', e1, rfl⟩ := e
          exact .cons (rp_nested I r d _ _ k p1 r1 h) (rp_nesteds I r ds _ _ ks' p2 r2 e1)
end
end
/-- a set of n members at a -/
def LenSetO (a : Addr) (n : Nat) : HO := .ext fun h => ∃ o es ep t, h.get? a = some o ∧ o.ExactSet ∧ o.data = .set es ep t ∧ t.fits es.size = true ∧ es.size = n
theorem lenSetO_new {P : Program} {w : World} {H : Hp} {h : Heap} {a : Addr} {o : Obj} {es : Array (Int × Value)} {ep : Nat} {t : SetTable} (ho : h.get? a = some o) (hx : o.ExactSet) (hd : o.data = .set es ep t) (hf : t.fits es.size = true) : ObjOk P w H h a (LenSetO a es.size) :=
  ⟨⟨o, es, ep, t, ho, hx, hd, hf, rfl⟩, ⟨o, ho⟩, fun h1 h2 ⟨o', es', ep', t', e, r⟩ k => ⟨o', es', ep', t', k o' e, r⟩⟩
/-- the members are those, each once -/
def Uniq (ks : List NestedKey) (n : Nat) : Prop := ∃ M : List NestedKey, M.Nodup ∧ (∀ k, k ∈ M ↔ k ∈ ks) ∧ M.length = n
def rSetN (K : PySem.W.Frag) : List V → Hp → VK → Prop := fun xs H Q => ∃ (v : V) (wd : Wd) (ds : List Dv) (ks : List NestedKey), xs = [v] ∧ wd.H = H ∧ Rel K wd ∧ Rp K wd (.tup ds) v ∧ toKs ds = some ks ∧ (∀ d ∈ ds, ∃ es, d = .tup es) ∧ (∀ k ∈ ks, k.depth ≤ 8) ∧ ds.length < 64 ∧
  ∀ S n, H S = none → n ≤ ds.length → Uniq ks n → Q (.ref S) (upd H S (LenSetO S n))
theorem toKs_len : ∀ {ds : List Dv} {ks : List NestedKey}, toKs ds = some ks → ks.length = ds.length
  | [], ks, e => by cases e; rfl
  | d :: ds, ks, e => by
    simp only [toKs] at e
    cases h : toK d with
    | none => rw [h] at e; cases e
    | some k =>
      rw [h] at e
      simp only [Option.map_eq_some_iff] at e
      obtain ⟨ks', e1, rfl⟩ := e
      rw [List.length_cons, List.length_cons, toKs_len e1]
/-- tuples are references -/
theorem refs_of {K : PySem.W.Frag} {wd : Wd} {h : Heap} : ∀ {ds : List Dv} {xs : List V} {us : List Value} {ks : List NestedKey}, (∀ d ∈ ds, ∃ es, d = .tup es) → RpAll K wd ds xs → L2.Vals xs us → NestedAll h ks us → (∀ k ∈ ks, k.depth ≤ 8) →
    ∃ ps : List (Addr × NestedKey), us = ps.map (fun p => Value.ref p.1) ∧ ps.map (·.2) = ks ∧ ∀ p ∈ ps, IsN h p.2 p.1
  | [], _, _, _, _, ra, rv, na, _ => by
    cases ra; cases rv; cases na
    exact ⟨[], rfl, rfl, fun p hp => by cases hp⟩
  | d :: ds, _, _, _, ht, ra, rv, na, hd => by
    cases ra with
    | cons p1 p2 =>
      cases rv with
      | cons r1 r2 =>
        cases na with
        | @cons k u' ks us n1 n2 =>
          obtain ⟨es, rfl⟩ := ht d List.mem_cons_self
          cases p1 with
          | @tup a _ _ t _ =>
            have r1' : _ = Value.ref a := r1
            subst r1'
            obtain ⟨ps, e1, e2, e3⟩ := refs_of (fun x hx => ht x (List.mem_cons_of_mem _ hx)) p2 r2 n2 (fun k hk => hd k (List.mem_cons_of_mem _ hk))
            refine ⟨(a, k) :: ps, by rw [e1] <;> rfl, by rw [List.map_cons, e2], fun p hp => ?_⟩
            rcases List.mem_cons.mp hp with rfl | hp
            · exact ⟨n1, hd _ List.mem_cons_self⟩
            · exact e3 p hp
section
variable {X : Cx}
theorem cr_setN (hc : X.calm = true) (hu : X.A.units + 64 < cLine) : CallR X (.type "set") (rSetN X.K) := by
  intro pins s σ H xs us Q I r h
  obtain ⟨v, wd, ds, ks, rfl, rfl, rl, rp, ek, ht, hdp, hf, q⟩ := h
  cases rp with
  | @tup l xs _ t ra =>
    rw [Vals.ref1 r]
    obtain ⟨its, rv, ⟨o, ho, hcl, n, hd⟩, hz⟩ := I.tuple (rl.sqT t)
    have na := rp_nesteds I rl ds xs its ks ra rv ek
    obtain ⟨ps, e1, e2, e3⟩ := refs_of ht ra rv na hdp
    have hn : wd.H s.heap.objs.size = none := I.hok.fresh (Nat.le_refl _)
    have lps : ps.length = ds.length := by
      have := congrArg List.length e2
      rw [List.length_map, toKs_len ek] at this
      exact this
    refine call_setT (P := X.prog) (w := X.w) (I.ok.hd hc) ⟨o, ho, hcl, n, hd⟩ (nloop ps (by simpa using e1) e3 (by omega) (none_from (Nat.le_refl _)) (by omega)) fun h' tk ⟨L, es, ep, t, R, g⟩ k => ?_
    obtain ⟨o', ho', hx', hd'⟩ := R.ob
    refine ⟨.ref s.heap.objs.size, upd wd.H s.heap.objs.size (LenSetO s.heap.objs.size es.size), I.laid (t' := tk) k (Nat.le_refl _) (lenSetO_new ho' hx' hd' (NSet.fits (s := { s with heap := h' }) R)), rfl, q _ _ hn (by have := g.len; rw [nsz R.rows]; omega) ⟨L.map (·.2), R.nd, fun k => ⟨fun hk => ?_, fun hk => ?_⟩, ?_⟩⟩
    · obtain ⟨p, hp, rfl⟩ := List.mem_map.mp hk
      rw [← e2]
      exact List.mem_map_of_mem (List.mem_of_mem_take (g.sub p hp))
    · rw [← e2] at hk
      obtain ⟨p, hp, rfl⟩ := List.mem_map.mp hk
      exact g.all p (by rw [List.take_length]; exact hp)
    · rw [List.length_map, nsz R.rows]
def rLenS : List V → Hp → VK → Prop := fun xs H Q => ∃ a n, xs = [V.ref a] ∧ H a = some (LenSetO a n) ∧ n < 2 ^ 60 ∧ Q (.int n) H
theorem cr_lenS : CallR X (.builtin "len") rLenS := by
  intro pins s σ H xs us Q I r h
  obtain ⟨a, n, rfl, ha, hn, q⟩ := h
  rw [Vals.ref1 r]
  obtain ⟨⟨o, es, ep, t, ho, hx, hd, hf, e⟩, _⟩ := I.hok a _ ha
  subst e
  exact call_len_set ho hx hd hf (by omega) ⟨.int es.size, H, I.tok _, ⟨_, rfl⟩, q⟩
end
end G3

namespace G3
open PySem PySem.Spec PyProof.Rows L2
@[simp] def gLenSet (ga : GE) : GE := fun ρ h Q => ga ρ h fun d h1 => ∃ ds ks, d = .tup ds ∧ toKs ds = some ks ∧ (∀ d ∈ ds, ∃ es, d = .tup es) ∧ (∀ k ∈ ks, k.depth ≤ 8) ∧ ds.length < 64 ∧ ∀ n, Uniq ks n → Q (.int n) h1
/-- the members of a list of numbers, or of texts, in their order -/
@[simp] def gSortSet (ga : GE) : GE := fun ρ h Q => ga ρ h fun d h1 => ∃ ks : List Key, d = .lst (ks.map keyD) ∧ ks.length < 4000 ∧ sortedK ks h1 Q
section
variable {P : Program} {w : World} {A : Around} {E : Value → Shared → Prop} {s : Shared}
/-- set.update's loop over numbers, texts -/
theorem kloop {h0 : Heap} {S : Addr} {items : Array Value} {u : Nat} (ks : List Key) (hit : PySem.W.EachIs (fun v k => keyIs k v = true) items.toList ks) (hfew : ks.length < 4000) (hS0 : h0.get? S = none) :
    SetLoop P w u h0 S items (fun h => ∃ T n, SetM P w h S T n ∧ (∀ k, T k = true ↔ k ∈ ks) ∧ n ≤ ks.length) := by
  intro A' I fp wr Gr St R s1 hA W hSf hw0 hst hkp hS hR
  have hn : items.size = ks.length := by
    have q := hit.length
    rwa [Array.length_toList] at q
  have hval : ∀ (i : Nat) (v : Value), items[i]? = some v → ∃ k, ks[i]? = some k ∧ keyIs k v = true := fun i v hv => by
    have q : items.toList[i]? = some v := by rw [Array.getElem?_toList]; exact hv
    obtain ⟨hi, e⟩ := List.getElem?_eq_some_iff.mp q
    have hi2 : i < ks.length := by rw [← hn, ← Array.length_toList]; exact hi
    refine ⟨ks[i], List.getElem?_eq_getElem hi2, ?_⟩
    have hz := hit.zip (items.toList[i], ks[i]) (by
      have hz : i < (items.toList.zip ks).length := by rw [List.length_zip]; omega
      have := List.getElem_mem hz
      rwa [List.getElem_zip] at this)
    rw [e] at hz
    exact hz
  have hSw : S ∉ wr := fun h => hSf (W.sub _ h)
  have hsub : ∀ b ∈ wr, b ∈ S :: wr := fun b hb => List.mem_cons_of_mem _ hb
  have keepM : ∀ {s s' : Shared}, Moved wr Gr s s' → Kept h0 s.heap → Kept h0 s'.heap := fun hm hkp b o e =>
    hm.heap b o (fun hb => by rw [hw0 b hb] at e; cases e) (hkp b o e)
  have sb : scanBound = 4096 := rfl
  suffices go : ∀ (k i : Nat) (s : Shared), items.size - i = k → i ≤ items.size → St i s → Kept h0 s.heap → (∃ T n, SetM P w s.heap S T n ∧ (∀ k, T k = true ↔ k ∈ ks.take i) ∧ n ≤ i) →
      (∀ s', Moved (S :: wr) Gr s s' → (∃ T n, SetM P w s'.heap S T n ∧ (∀ k, T k = true ↔ k ∈ ks) ∧ n ≤ ks.length) → Kept h0 s'.heap → R (.ok (.ret .none)) s') →
      codeAny (model P w) A' (.builtin "set.update.loop" ⟨[.ref S, .ref I], []⟩) R s by
    refine go (items.size - 0) 0 s1 rfl (Nat.zero_le _) hst hkp ⟨fun _ => false, 0, ?_, fun k => by simp, Nat.le_refl _⟩ hR
    exact ⟨_, #[], 0, _, hS, ⟨rfl, rfl, rfl⟩, rfl, (fun e he => by simp at he), (by simp), (fun k => by simp), (by decide), (by rfl), rfl, List.Pairwise.nil, by
      show _ ∨ (!w.params.followText "set-order") = true
      cases w.params.followText "set-order"
      · exact .inr rfl
      · exact .inl rfl⟩
  intro k
  induction k with
  | zero =>
    intro i s hk' hi hst hkp ⟨T, n, hT, g, gn⟩ hR
    have hin : i = items.size := by omega
    subst hin
    refine codeAny_builtin PyProof.Rows.F.entry_set_update_loop ?_
    rw [Around.under_plainId PyProof.Rows.F.plain_set_update_loop _]
    show wpAny _ A'.in1 (pyNext (.ref I) >>= _) _ _ s
    refine wpAny_bind (W.done s _ _ hst fun s' hm => ?_)
    show wpAny _ A'.in1 (ret Value.none) _ _ s'
    have hkp' := keepM hm hkp
    rw [hn, List.take_length] at g
    exact wpAny_pure (hR s' (hm.mono hsub) ⟨T, n, hT.at fun o e => hm.heap S o hSw e, g, by omega⟩ hkp')
  | succ k ih =>
    intro i s hk' hi hst hkp ⟨T, n, hT, g, gn⟩ hR
    have hlt : i < items.size := by omega
    refine codeAny_builtin PyProof.Rows.F.entry_set_update_loop ?_
    rw [Around.under_plainId PyProof.Rows.F.plain_set_update_loop _]
    show wpAny _ A'.in1 (pyNext (.ref I) >>= _) _ _ s
    refine wpAny_bind (W.item i s _ _ hlt hst fun v s' hP hst' hm => ?_)
    obtain ⟨x, hx, hkx⟩ := hval i v hP
    have hkp' := keepM hm hkp
    have hT' : SetM P w s'.heap S T n := hT.at fun o e => hm.heap S o hSw e
    show wpAny _ A'.in1 (holding [v] (setAdd S v) >>= _) _ _ s'
    refine wpAny_bind (wpAny_holding ?_)
    unfold setAdd
    refine wpAny_holding ?_
    refine wpAny_bind ((mixKind P w).pyHash (k := x) hkx ?_)
    refine setM_hashed (s := { s' with toks := s'.toks + 1 }) hT' hkx (by omega) fun h' hsb r => ?_
    have g' : ∀ j, (T j || decide (j = x)) = true ↔ j ∈ ks.take (i + 1) := fun j => by
      rw [Bool.or_eq_true, decide_eq_true_eq, g j]
      have tk : ks.take (i + 1) = ks.take i ++ [x] := by rw [List.take_succ, hx] <;> rfl
      rw [tk, List.mem_append, List.mem_singleton]
    have hS0' : Kept h0 h' := fun b o e => (hsb.2 b (fun z => by rw [z, hS0] at e; cases e)).trans (hkp' b o e)
    refine wpAny_pure ⟨plainId_quiet PyProof.Rows.F.plain_set_update_loop _, ih (i + 1) _ (by omega) hlt (W.frame _ s' _ _ hst' (Nat.le_add_right _ _) fun b hb o e => ?_) hS0' ⟨_, _, r, g', by split <;> omega⟩ fun s'' hm'' hS'' hkp'' => ?_⟩
    · rw [hsb.2 b (fun h : b = S => hSf (by rw [← h]; exact hb))]; exact e
    · refine hR s'' (Moved.trans W.gtrans ((hm.mono hsub).then_heap (Nat.le_add_right _ _) fun b o hb e => ?_) hm'') hS'' hkp''
      rw [hsb.2 b (fun h : b = S => hb (by rw [h]; exact List.mem_cons_self))]; exact e
end
section
variable {X : Cx}
theorem lo_lenSet {ga : GE} {σ : L2.St} {H : Hp} {Q : VK} (h : lo X.K (gLenSet ga) σ H Q) : tCB rLenS (tCons (tCB (rSetN X.K) (tCons (lo X.K ga) tNil)) tNil) σ H Q := by
  obtain ⟨ρ, w, Q3, e, gd, q, out⟩ := h
  subst e
  refine ⟨ρ, w, _, rfl, gd, q, fun d w1 v ⟨ds, ks, ed, ek, ht, hdp, hl, q1⟩ r1 e1 p1 => ?_⟩
  subst ed
  refine ⟨v, w1, ds, ks, rfl, rfl, r1, p1, ek, ht, hdp, hl, fun S n hS hn un => ?_⟩
  obtain ⟨r2, e2, _⟩ := untold_put (u := LenSetO S n) hS r1 (r1.hnone hS).1 r1 (.inr rfl)
  refine ⟨S, n, rfl, upd_same, by omega, ?_⟩
  exact out.go (w' := ⟨w1.h, w1.G, upd w1.H S (LenSetO S n)⟩) r2 (e1.trans e2) (.int _) (q1 n un)
theorem e_lenSet {a : Expr} {ga : GE} {p p2 q pos : Pos} (hc : X.calm = true) (hu : X.A.units + 64 < cLine) (hg : Gl X "len") (hm : X.mg "len" = none) (hg2 : Gl X "set") (hm2 : X.mg "set" = none) (ha : E3 X a ga)
    (he : starEach [.Call (.Name "set" p2) [a] [] q] X.env = (false, eval (.Call (.Name "set" p2) [a] [] q) X.env) :: starEach [] X.env := by rfl) (he2 : starEach [a] X.env = (false, eval a X.env) :: starEach [] X.env := by rfl) :
    E3 X (.Call (.Name "len" p) [.Call (.Name "set" p2) [a] [] q] [] pos) (gLenSet ga) :=
  PEimp (pe_callB cr_lenS hg hm (by decide +kernel) (pa_cons (pe_callTy (cr_setN hc hu) hg2 hm2 (by decide +kernel) (pa_cons ha pa_nil he2) (by decide) (by decide) he2 (by rfl)) pa_nil he) (by decide) (by decide) he (by rfl)) fun _ _ _ h => lo_lenSet h
def rSetK (P : Program) (w : World) (K : PySem.W.Frag) : List V → Hp → VK → Prop := fun xs H Q => ∃ (a : Addr) (ks : List Key), xs = [V.ref a] ∧ SqL K H a (ks.map kV) ∧ ks.length < 4000 ∧
  ∀ S T n, H S = none → (∀ k, T k = true ↔ k ∈ ks) → Q (.ref S) (upd H S (SetMO P w S T n))
theorem keys_each {P : Program} {w : World} : ∀ {ks : List Key} {us : List Value}, L2.Vals (ks.map kV) us → PySem.W.EachIs (fun v k => keyIs k v = true) us ks
  | [], _, .nil => .nil
  | k :: ks, _, .cons r t => .cons (kV_is (P := P) (w := w) r) (keys_each (P := P) (w := w) t)
theorem cr_setK (hc : X.calm = true) (hu : X.A.units + 64 < cLine) : CallR X (.type "set") (rSetK X.prog X.w X.K) := by
  intro pins s σ H xs us Q I r h
  obtain ⟨l, ks, rfl, hl, hf, q⟩ := h
  rw [Vals.ref1 r]
  obtain ⟨its, rv, pl, hz⟩ := I.list hl
  have hn : H s.heap.objs.size = none := I.hok.fresh (Nat.le_refl _)
  refine call_setL (P := X.prog) (w := X.w) (I.ok.hd hc) pl.isList (kloop ks (by simpa using keys_each (P := X.prog) (w := X.w) rv) hf (none_from (Nat.le_refl _))) fun h' tk ⟨T, n, R, g, _⟩ k => ?_
  exact ⟨.ref s.heap.objs.size, upd H s.heap.objs.size (SetMO X.prog X.w s.heap.objs.size T n), I.laid (t' := tk) k (Nat.le_refl _) (setMO_new R), rfl, q _ _ _ hn g⟩
theorem lo_sortSet {ga : GE} {σ : L2.St} {H : Hp} {Q : VK} (h : lo X.K (gSortSet ga) σ H Q) : tCB (rSortedM X.prog X.w) (tCons (tCB (rSetK X.prog X.w X.K) (tCons (lo X.K ga) tNil)) tNil) σ H Q := by
  obtain ⟨ρ, w, Q3, e, gd, q, out⟩ := h
  subst e
  refine ⟨ρ, w, _, rfl, gd, q, fun d w1 v ⟨ks, ed, hl, al, q1⟩ r1 e1 p1 => ?_⟩
  subst ed
  cases p1 with
  | @lst a xs _ t ra =>
    have ex := ra.keys
    subst ex
    refine ⟨a, ks, rfl, r1.sqL t, hl, fun S T n hS hT => ?_⟩
    obtain ⟨r2, e2, _⟩ := untold_put (u := SetMO X.prog X.w S T n) hS r1 (r1.hnone hS).1 r1 (.inr rfl)
    refine ⟨S, T, n, rfl, upd_same, al.imp (fun z k hk => z k ((hT k).1 hk)) (fun z k hk => z k ((hT k).1 hk)), fun ks' p hnd hmem hw np => ?_⟩
    obtain ⟨r3, e3, p3⟩ := new_lst (p := p) r2 (rp_keys ks') np
    exact out.go r3 ((e1.trans e2).trans e3) p3 (q1 ks' hnd (fun k => (hmem k).trans (hT k)) hw)
theorem e_sortSet {a : Expr} {ga : GE} {p p2 q pos : Pos} (hc : X.calm = true) (hu : X.A.units + 64 < cLine) (hg : Gl X "sorted") (hm : X.mg "sorted" = none) (hg2 : Gl X "set") (hm2 : X.mg "set" = none) (ha : E3 X a ga)
    (he : starEach [.Call (.Name "set" p2) [a] [] q] X.env = (false, eval (.Call (.Name "set" p2) [a] [] q) X.env) :: starEach [] X.env := by rfl) (he2 : starEach [a] X.env = (false, eval a X.env) :: starEach [] X.env := by rfl) :
    E3 X (.Call (.Name "sorted" p) [.Call (.Name "set" p2) [a] [] q] [] pos) (gSortSet ga) :=
  PEimp (pe_callB (cr_sortedM hc hu) hg hm (by decide +kernel) (pa_cons (pe_callTy (cr_setK hc hu) hg2 hm2 (by decide +kernel) (pa_cons ha pa_nil he2) (by decide) (by decide) he2 (by rfl)) pa_nil he) (by decide) (by decide) he (by rfl)) fun _ _ _ h => lo_sortSet h
end
end G3

namespace G3
open PySem PySem.Spec PyProof.Rows L2
/-! ### list(range(n)) -/
@[simp] def gLRng (ga : GE) : GE := fun ρ h Q => ga ρ h fun d h1 => ∃ n : Int, d = .int n ∧ 0 ≤ n ∧ n ≤ 16777216 ∧ Q (.lst (rng 0 n.toNat)) h1
@[simp] def gMRng (ga : GE) : GE := fun ρ h Q => ga ρ h fun d h1 => ∃ n : Int, d = .int n ∧ 0 ≤ n ∧ n ≤ 16777216 ∧ ∀ p, h1 p = none → Q (.ref p) (mput h1 p (.lst (rng 0 n.toNat)))
section
variable {X : Cx} {a : Expr} {ga : GE} {p p2 q pos : Pos}
theorem rp_rng {K : PySem.W.Frag} {w : Wd} (n : Int) : RpAll K w (rng 0 n.toNat) (rgV 0 n) := by
  unfold rng rgV
  rw [Int.sub_zero]
  generalize List.range n.toNat = l
  induction l with
  | nil => exact .nil
  | cons i l ih => exact .cons (.int _) ih
theorem e_lrng (hc : X.calm = true) (hg : Gl X "list") (hm : X.mg "list" = none) (hg2 : Gl X "range") (hm2 : X.mg "range" = none) (ha : E3 X a ga)
    (na : starEach [.Call (.Name "range" p) [a] [] q] X.env = (false, eval (.Call (.Name "range" p) [a] [] q) X.env) :: starEach [] X.env := by rfl) (nb : starEach [a] X.env = (false, eval a X.env) :: starEach [] X.env := by rfl) : E3 X (.Call (.Name "list" p2) [.Call (.Name "range" p) [a] [] q] [] pos) (gLRng ga) :=
  PEimp (pe_listRg hc hg hm (prg_1 hg2 hm2 ha nb) na) fun σ H Q ⟨ρ, w, Q3, eH, gd, q, out⟩ => by
    subst eH
    refine ⟨ρ, w, _, rfl, gd, q, fun d w1 v ⟨n, ed, n0, n1, q1⟩ r1 e1 p1 => ?_⟩
    subst ed
    cases p1
    refine ⟨n, rfl, .of_le (by decide) n1 (by decide) n0, fun S hS => ?_⟩
    obtain ⟨r2, e2, p2⟩ := new_lst (p := S) r1 (rp_rng n) hS
    exact out.go r2 (e1.trans e2) p2 q1
theorem e_mrng (hc : X.calm = true) (hg : Gl X "list") (hm : X.mg "list" = none) (hg2 : Gl X "range") (hm2 : X.mg "range" = none) (ha : E3 X a ga)
    (na : starEach [.Call (.Name "range" p) [a] [] q] X.env = (false, eval (.Call (.Name "range" p) [a] [] q) X.env) :: starEach [] X.env := by rfl) (nb : starEach [a] X.env = (false, eval a X.env) :: starEach [] X.env := by rfl) : E3 X (.Call (.Name "list" p2) [.Call (.Name "range" p) [a] [] q] [] pos) (gMRng ga) :=
  PEimp (pe_listRg hc hg hm (prg_1 hg2 hm2 ha nb) na) fun σ H Q ⟨ρ, w, Q3, eH, gd, q, out⟩ => by
    subst eH
    refine ⟨ρ, w, _, rfl, gd, q, fun d w1 v ⟨n, ed, n0, n1, q1⟩ r1 e1 p1 => ?_⟩
    subst ed
    cases p1
    refine ⟨n, rfl, .of_le (by decide) n1 (by decide) n0, fun S hS => ?_⟩
    obtain ⟨r2, e2⟩ := put_lst (p := S) r1 (rp_rng n) (.inl hS)
    exact out (.ref S) ⟨mput w1.h S (.lst (rng 0 n.toNat)), upd w1.G S (.lst (rgV 0 n)), upd w1.H S (.lst (rgV 0 n))⟩ _ (q1 S (r1.hnone hS).2) r2 (e1.trans e2) (.ref S)
end
end G3

namespace G3
open PySem PySem.Spec PyProof.Rows L2
/-! ### a tuple so often, none or one time too -/
theorem tuple_mul1 (l : Addr) (items : Array Value) (n : Nat) (dd : Option Addr) (sl : Array (Option Value)) (u : Tok) :
    Meets (Builtin.«tuple.__mul__» ⟨[.ref l, .int 1 u], []⟩) (fun _ R s => s.heap.get? l = some { cls := .type "tuple", dict := dd, data := .seq items n, slots := sl } ∧
      R (.ok (.ret (Value.ref l))) s) :=
  .of_wp fun prog w A R s h => by
    obtain ⟨hp, g, d, tk, os⟩ := s
    obtain ⟨hl, h⟩ := h
    have f1 := AutoSeq1.idx_int
    wp_walk using wpAny_loadPart' hl
    exact ⟨_, rfl, h⟩
theorem tuple_mul0 (l : Addr) (items : Array Value) (n : Nat) (dd : Option Addr) (sl : Array (Option Value)) (u : Tok) (hi : items.isEmpty = false) :
    Meets (Builtin.«tuple.__mul__» ⟨[.ref l, .int 0 u], []⟩) (fun _ R s => s.heap.get? l = some { cls := .type "tuple", dict := dd, data := .seq items n, slots := sl } ∧
      R (.ok (.ret (Value.ref s.heap.objs.size))) { s with heap := s.heap.push { cls := Value.type "tuple", data := Data.seq #[] }, toks := s.toks }) :=
  .of_wp fun prog w A R s h => by
    obtain ⟨hp, g, d, tk, os⟩ := s
    obtain ⟨hl, h⟩ := h
    have f1 := AutoSeq1.idx_int
    wp_walk using wpAny_loadPart' hl
    exact ⟨_, rfl, h⟩
def rRep01 (K : PySem.W.Frag) : R2 := fun x y H Q => ∃ l k xs, x = .ref l ∧ y = .int k ∧ SqT K H l xs ∧ xs ≠ [] ∧ ((k = 1 ∧ Q (.ref l) H) ∨ (k = 0 ∧ ∀ p, H p = none → Q (.ref p) (upd H p (.tup []))))
section
variable {X : Cx}
theorem op_rep01 : OpR X (binaryOp .Mult) (rRep01 X.K) := by
  intro pins s σ H x y v u Q I rx ry h
  obtain ⟨l, k, xs, rfl, rfl, hT, hne, hk⟩ := h
  cases rx
  obtain ⟨t, rfl⟩ := ry
  obtain ⟨its, r, ⟨⟨cls, dd, data, sl⟩, ho, hc, n, hd⟩, hs⟩ := I.tuple hT
  simp only at hc hd
  subst hc hd
  have hn : its ≠ [] := fun e => hne (by
    have := r.length
    rw [e] at this
    exact List.eq_nil_of_length_eq_zero this)
  have hi : its.toArray.isEmpty = false := by
    cases its with
    | nil => exact absurd rfl hn
    | cons a b => rfl
  rcases hk with ⟨rfl, q⟩ | ⟨rfl, q⟩
  · refine wpAny_binaryOp_repeat_ref (T := "tuple") (U := "int") (by decide) ⟨_, ho, rfl⟩ (fun s' => typeIs_int s' 1 t) noFill_tuple_mul F.fills_int_mul F.slot_int_rmul repeat_tuple F.slot_int_index.lookup
      (call_meets F.slot_int_rmul (typeIs_int s 1 t) F.entry_int_rmul (F.args_int_rmul_2 _ _) (int_rmul_tuple 1 t l its.toArray n dd sl)
        ⟨ho, rfl, ⟨_, ho, rfl⟩, call_meets F.slot_tuple_mul ⟨_, ho, rfl⟩ F.entry_tuple_mul (F.args_tuple_mul_2 _ _) (tuple_mul1 l its.toArray n dd sl t) ⟨ho, ?_⟩⟩)
    exact ⟨.ref l, H, I, rfl, q⟩
  · refine wpAny_binaryOp_repeat_ref (T := "tuple") (U := "int") (by decide) ⟨_, ho, rfl⟩ (fun s' => typeIs_int s' 0 t) noFill_tuple_mul F.fills_int_mul F.slot_int_rmul repeat_tuple F.slot_int_index.lookup
      (call_meets F.slot_int_rmul (typeIs_int s 0 t) F.entry_int_rmul (F.args_int_rmul_2 _ _) (int_rmul_tuple 0 t l its.toArray n dd sl)
        ⟨ho, rfl, ⟨_, ho, rfl⟩, call_meets F.slot_tuple_mul ⟨_, ho, rfl⟩ F.entry_tuple_mul (F.args_tuple_mul_2 _ _) (tuple_mul0 l its.toArray n dd sl t hi) ⟨ho, ?_⟩⟩)
    refine ⟨.ref s.heap.objs.size, _, I.laid (t' := s.toks) (o := .tup []) (fun b ob q => Heap.get?_push_of_some _ q) (Nat.le_refl _) ?_, rfl, q _ (I.hok.fresh (Nat.le_refl _))⟩
    exact ⟨by simp, [], .nil, IsTup.new _ _⟩
/-- .. as often as you like -/
@[simp] def rMulT2 : D2 := fun a b h Q => ∃ ds k, a = .tup ds ∧ b = .int k ∧ ds ≠ [] ∧ 0 ≤ k ∧ k ≤ 1000 ∧ ds.length ≤ 1000 ∧ Q (.tup (List.replicate k.toNat ds).flatten) h
theorem o_mulT2 : OpR X (binaryOp .Mult) (lo2 X.K rMulT2) := by
  intro pins s σ H x y v u Q I rx ry h
  obtain ⟨a, b, w, Q3, e, r, pa, pb, ⟨ds, k, rfl, rfl, h0, h1, h2, h3, q⟩, out⟩ := h
  by_cases k2 : 2 ≤ k
  · exact o_mulT pins s σ H x y v u Q I rx ry ⟨_, _, w, Q3, e, r, pa, pb, ⟨ds, k, rfl, rfl, h0, k2, h2, h3, q⟩, out⟩
  subst e
  cases pb
  cases pa with
  | @tup p xs _ ta ra =>
    have z := ra.length
    refine op_rep01 pins s σ w.H _ _ v u Q I rx ry ⟨_, k, _, rfl, rfl, r.sqT ta, fun e => ?_, ?_⟩
    · rw [e] at z
      cases ds with
      | nil => exact h0 rfl
      | cons _ _ => cases z
    · by_cases e1 : k = 1
      · subst e1
        refine .inl ⟨rfl, ?_⟩
        have e : (List.replicate (1 : Int).toNat ds).flatten = ds := by simp
        rw [e] at q
        exact out _ w _ q r (Ext.refl w) (.tup ta ra)
      · have e0 : k = 0 := by omega
        subst e0
        refine .inr ⟨rfl, fun p np => ?_⟩
        obtain ⟨r2, e2, p2⟩ := new_tup (p := p) (ds := []) (xs := []) r .nil np
        exact out.go r2 e2 p2 q
end
end G3

namespace G3
open PySem PySem.Spec PyProof.Rows L2
/-! ### tuple(text) -/
def lettersV (z : Str) : List V := z.cps.toList.map fun c => V.str ⟨#[c]⟩
theorem rp_letters {K : PySem.W.Frag} {w : Wd} (z : Str) : RpAll K w (z.cps.toList.map fun c => Dv.str ⟨#[c]⟩) (lettersV z) := by
  unfold lettersV
  generalize z.cps.toList = l
  induction l with
  | nil => exact .nil
  | cons c l ih => exact .cons (.str _) ih
/-- a list, a tuple; a text's letters -/
@[simp] def cTuple2 : DC := fun ds h Q => (∃ d es, ds = [d] ∧ seqOf h d = some es ∧ Q (.tup es) h) ∨ ∃ z : Str, ds = [.str z] ∧ z.length ≤ sizeLine ∧ Q (.tup (z.cps.toList.map fun c => .str ⟨#[c]⟩)) h
section
variable {X : Cx}
theorem c_tuple2 (hc : X.calm = true) : C3 X (.type "tuple") cTuple2 := by
  intro pins s σ H xs us Q I rx h
  obtain ⟨ds, w, Q3, e, r, ra, q, out⟩ := h
  rcases q with q | ⟨z, rfl, hz, q⟩
  · exact c_tuple pins s σ H xs us Q I rx ⟨ds, w, Q3, e, r, ra, q, out⟩
  subst e
  obtain ⟨x, rfl, rp⟩ := ra.one
  cases rp
  obtain ⟨u, eu, t, rfl⟩ := vals1 rx
  subst eu
  refine call_tuple_str (I.ok.hd hc) z t (fun h' tk acc hk hacc => ?_) hz
  have I2 : L2.Inv X pins σ w.H { s with heap := h', toks := tk } := I.kept hk
  have vals : L2.Vals (lettersV z) acc.toList := by
    refine vals_of_at ?_ fun j x u h1 h2 => ?_
    · unfold lettersV
      rw [List.length_map, Array.length_toList, Array.length_toList, hacc.1]
    · rw [Array.getElem?_toList] at h2
      have := hacc.2 j u h2
      unfold lettersV at h1
      obtain ⟨c, t', hc', rfl⟩ := this
      rw [List.getElem?_map, Array.getElem?_toList, hc'] at h1
      cases h1
      exact ⟨t', rfl⟩
  have ok : ObjOk X.prog X.w w.H (h'.push { cls := .type "tuple", data := .seq acc }) h'.objs.size (.tup (lettersV z)) := by
    refine ⟨?_, acc.toList, vals, by simpa using IsTup.new _ _⟩
    unfold lettersV
    rw [List.length_map, Array.length_toList]
    exact hz
  refine ⟨.ref h'.objs.size, upd w.H h'.objs.size (.tup (lettersV z)), I2.laid (t' := tk) (fun c o e => Heap.get?_push_of_some _ e) (Nat.le_refl _) ok, rfl, ?_⟩
  obtain ⟨r2, e2, p2⟩ := new_tup (p := h'.objs.size) r (rp_letters z) (I2.hok.fresh (Nat.le_refl _))
  exact out.go r2 e2 p2 q
end
end G3

/-! ### zip(a, b, strict=True) of two tuples of one length -/
namespace G3Z
open PySem
open PySem.Sem (wp)
/-- a strict zip -/
abbrev IsZs (h : Heap) (z TI TO : Addr) (f0 : Value) : Prop :=
  h.get? z = some { cls := .type "zip", dict := none, data := .fields #[f0, .bool false, .bool true, .ref TI, .ref TO], slots := #[] }
theorem F_typeCall (a b : Value) : checkTypeCall "zip" ⟨[a, b], [(Str.ofString "strict", .bool true)]⟩ = pure () := by kernel_rfl
theorem F_newCall (a b : Value) : checkBuiltinCall "zip.__new__" ⟨[.type "zip", a, b], [(Str.ofString "strict", .bool true)]⟩ = pure () := by kernel_rfl
theorem F_init (obj a b : Value) : argsOk "object.__init__" ⟨[obj, a, b], [(Str.ofString "strict", .bool true)]⟩ := by unfold argsOk; kernel_rfl
abbrev zsH5 (h : Heap) (l1 l2 : Addr) : Heap := (RZ.zipTH4 h l1 l2).push { cls := .type "zip", data := .fields #[.none, .bool false, .bool true, .ref (RZ.zipTH2 h l1 l2).objs.size, .ref (RZ.zipTH3 h l1 l2).objs.size] }
theorem meets_zs_new (l1 l2 : Addr) (xs ys : Array Value) :
    Meets (Builtin.«zip.__new__» ⟨[.type "zip", .ref l1, .ref l2], [(Str.ofString "strict", .bool true)]⟩) (fun _ R s => s.heap.IsTuple l1 xs ∧ s.heap.IsTuple l2 ys ∧
      R (.ok (.ret (.ref (RZ.zipTH4 s.heap l1 l2).objs.size))) { s with heap := zsH5 s.heap l1 l2 }) :=
  .of_wp fun prog w A R s h => by
    obtain ⟨hp, g, d, tk, os⟩ := s; obtain ⟨hl1, hl2, h⟩ := h
    have hsub := sub_zip
    have hL1 : Heap.IsTuple (Shared.heap ⟨hp, g, d, tk, os⟩) l1 xs := hl1
    have hL2 : Heap.IsTuple (Shared.heap ⟨hp.push { cls := .type "tuple_iterator", data := .fields #[.ref l1, .int 0 0] }, g, d, tk, os⟩) l2 ys := Heap.IsTuple.push hl2 _
    have e2 : (Str.ofString "strict" != ("strict" : Str)) = false := by decide +kernel
    wp_walk using wpAny_pyIter_tuple hL1, wpAny_pyIter_tuple hL2
    exact ⟨_, rfl, h⟩
section
variable {prog : Program} {w : World} {A : Around} {E : Value → Shared → Prop} {s : Shared}
theorem call_zs {l1 l2 : Addr} {xs ys : Array Value} {Q : Value → Shared → Prop} (hl1 : s.heap.IsTuple l1 xs) (hl2 : s.heap.IsTuple l2 ys)
    (h : ∀ h', IsZs h' (s.heap.objs.size + 4) (s.heap.objs.size + 2) (s.heap.objs.size + 3) .none → IsPair h' (s.heap.objs.size + 2) (.ref s.heap.objs.size) (.ref (s.heap.objs.size + 1)) →
      IsPair h' (s.heap.objs.size + 3) .none .none → h'.IsTupleIter s.heap.objs.size l1 0 → h'.IsTupleIter (s.heap.objs.size + 1) l2 0 → h'.objs.size = s.heap.objs.size + 5 →
      (∀ c o, s.heap.get? c = some o → h'.get? c = some o) → Q (.ref (s.heap.objs.size + 4)) { s with heap := h' }) :
    wpAny (model prog w) A (call (.type "zip") [.ref l1, .ref l2] [(Str.ofString "strict", .bool true)]) Q E s := by
  refine callType_newKw F.called_zip (by decide) (F_typeCall _ _) (F_newCall _ _) (fun obj => F_init obj _ _) F.entry_zip_new
    (meets_zs_new l1 l2 xs ys) ⟨hl1, hl2, ?_⟩
  have z1 : (RZ.zipTH1 s.heap l1).objs.size = s.heap.objs.size + 1 := Heap.size_push ..
  have z2 : (RZ.zipTH2 s.heap l1 l2).objs.size = s.heap.objs.size + 2 := by rw [Heap.size_push, z1]
  have z3 : (RZ.zipTH3 s.heap l1 l2).objs.size = s.heap.objs.size + 3 := by rw [Heap.size_push, z2]
  have z4 : (RZ.zipTH4 s.heap l1 l2).objs.size = s.heap.objs.size + 4 := by rw [Heap.size_push, z3]
  have z5 : (zsH5 s.heap l1 l2).objs.size = s.heap.objs.size + 5 := by rw [Heap.size_push, z4]
  have g5 : (zsH5 s.heap l1 l2).get? (RZ.zipTH4 s.heap l1 l2).objs.size = some _ := Heap.get?_push_size _ rfl
  have g4 : (zsH5 s.heap l1 l2).get? (RZ.zipTH3 s.heap l1 l2).objs.size = some _ := Heap.get?_push_of_some _ (Heap.get?_push_size _ rfl)
  have g3 : (zsH5 s.heap l1 l2).get? (RZ.zipTH2 s.heap l1 l2).objs.size = some _ := Heap.get?_push_of_some _ (Heap.get?_push_of_some _ (Heap.get?_push_size _ rfl))
  have g2 : (zsH5 s.heap l1 l2).get? (RZ.zipTH1 s.heap l1).objs.size = some _ := Heap.get?_push_of_some _ (Heap.get?_push_of_some _ (Heap.get?_push_of_some _ (Heap.get?_push_size _ rfl)))
  have g1 : (zsH5 s.heap l1 l2).get? s.heap.objs.size = some _ := Heap.get?_push_of_some _ (Heap.get?_push_of_some _ (Heap.get?_push_of_some _ (Heap.get?_push_of_some _ (Heap.get?_push_size _ rfl))))
  show _ ∧ _
  rw [z2, z3, z4] at g5
  rw [z1, z2] at g3
  rw [z3] at g4
  rw [z1] at g2
  rw [z4]
  exact ⟨⟨_, g5, rfl⟩, h _ g5 g3 g4 ⟨_, g1, rfl, rfl⟩ ⟨_, g2, rfl, rfl⟩ z5 fun c o x =>
    Heap.get?_push_of_some _ (Heap.get?_push_of_some _ (Heap.get?_push_of_some _ (Heap.get?_push_of_some _ (Heap.get?_push_of_some _ x))))⟩
theorem nextOrEnd_item {it l : Addr} {i : Nat} {items} {x : Value} {Q : Option Value → Shared → Prop} (hit : s.heap.IsTupleIter it l i)
    (hl : s.heap.IsTuple l items) (hx : items[i]? = some x)
    (hQ : ∀ h', h'.IsTupleIter it l (i + 1) → Heap.SameBut it s.heap h' → Q (some x) { s with heap := h' }) :
    wpAny (model prog w) A (Builtin.SmallTypes.nextOrEnd (.ref it)) Q E s := by
  unfold Builtin.SmallTypes.nextOrEnd
  exact wpAny_bind (wpAny_attempt (RZ.nextOf_tuple_item hit hl hx fun h' a b => wpAny_pure (hQ h' a b)))
theorem nextOrEnd_end {it l : Addr} {i : Nat} {items} {Q : Option Value → Shared → Prop} (hh : A.handled = none)
    (hit : s.heap.IsTupleIter it l i) (hl : s.heap.IsTuple l items) (hx : items[i]? = none)
    (hQ : ∀ h', Heap.ExtBut it s.heap h' → Q none { s with heap := h' }) :
    wpAny (model prog w) A (Builtin.SmallTypes.nextOrEnd (.ref it)) Q E s := by
  unfold Builtin.SmallTypes.nextOrEnd
  refine wpAny_bind (wpAny_attempt (RZ.nextOf_tuple_end hh hit hl hx fun h' e hk he => ?_))
  obtain ⟨o, ho, hc⟩ := he
  refine wpAny_bind (wpAny_isInstance (T := "StopIteration") (b := true) ⟨o, ho, hc⟩ isSubtype_stop ?_)
  exact wpAny_pure (hQ _ hk)
theorem stop_raised {α : Type} {Q : α → Shared → Prop} (hh : A.handled = none)
    (hE : ∀ h' e, (∀ c o, s.heap.get? c = some o → h'.get? c = some o) → (∃ o, h'.get? e = some o ∧ o.cls = .type "StopIteration") → E (.ref e) { s with heap := h' }) :
    wpAny (model prog w) A (Builtin.SmallTypes.stopIteration (α := α)) Q E s := by
  show wpAny _ _ (newExc (.type "StopIteration") [] >>= _) _ _ _
  refine wpAny_bind ?_
  simp only [newExc, newTuple]
  refine wpAny_bind (wpAny_newObj_type ?_ (by size_fits))
  refine wpAny_bind (m := firstArgMember _ _) (wpAny_of_eq (a := Value.none) (by first | rfl | (simp only [firstArgMember]; rfl)) ?_)
  refine wpAny_newObj_type ?_ (by size_fits)
  simp only [raiseNew]
  refine wpAny_bind (wpAny_handled ?_)
  first | rw [show A.in1.handled = none from hh] | rw [hh]
  refine wpAny_bind (wpAny_pure (wpAny_throw ?_))
  exact hE _ _ (fun c o x => Heap.get?_push_of_some _ (Heap.get?_push_of_some _ x)) ⟨_, Heap.get?_push_size _ rfl, rfl⟩
theorem zs_next_item {z TI TO i1 i2 l1 l2 : Addr} {k1 k2 : Nat} {xs ys : Array Value} {x y a b : Value} {Q : Value → Shared → Prop} (D : ZipApart z TI TO i1 i2 l1 l2)
    (hz : IsZs s.heap z TI TO .none) (hTI : IsPair s.heap TI (.ref i1) (.ref i2)) (hTO : IsPair s.heap TO a b)
    (h1 : s.heap.IsTupleIter i1 l1 k1) (h2 : s.heap.IsTupleIter i2 l2 k2) (hl1 : s.heap.IsTuple l1 xs) (hl2 : s.heap.IsTuple l2 ys) (hx : xs[k1]? = some x) (hy : ys[k2]? = some y)
    (hQ : ∀ h', IsZs h' z TI TO (rawInt s.heap.objs.size) → IsPair h' TO x y → h'.IsTupleIter i1 l1 (k1 + 1) → h'.IsTupleIter i2 l2 (k2 + 1) → IsPair h' s.heap.objs.size x y → h'.objs.size = s.heap.objs.size + 1 →
      (∀ c o, c ≠ z → c ≠ TO → c ≠ i1 → c ≠ i2 → s.heap.get? c = some o → h'.get? c = some o) → Q (.ref s.heap.objs.size) { s with heap := h' }) :
    wpAny (model prog w) A (Builtin.«zip.__next__» ⟨[.ref z], []⟩) (fun fin s' => ∃ v, fin = .done (.ret v) ∧ Q v s') E s := by
  show wpAny _ _ (field (.ref z) 2 >>= _) _ _ _
  refine wpAny_bind (wpAny_field hz rfl (x := .bool true) rfl ?_)
  show wpAny _ _ (field (.ref z) 3 >>= _) _ _ _
  refine wpAny_bind (wpAny_field hz rfl (x := .ref TI) rfl ?_)
  refine wpAny_bind (wpAny_seqItems hTI rfl ?_)
  show wpAny _ _ (Builtin.SmallTypes.ownedTupleIsFree (.ref z) >>= _) _ _ _
  refine wpAny_bind ?_
  unfold Builtin.SmallTypes.ownedTupleIsFree
  refine wpAny_bind (wpAny_field hz rfl (x := .none) rfl (wpAny_pure ?_))
  simp only [if_true]
  refine wpAny_bind (wpAny_rule ?_)
  refine wpAny_bind (wpAny_field hz rfl (x := .ref TO) rfl ?_)
  refine wpAny_bind (wpAny_setField_rec hz (by simp) fun h₁ hz₁ hs₁ => ?_)
  replace hz₁ : IsZs h₁ z TI TO .ellipsis := hz₁
  refine wpAny_bind ?_
  simp only [List.zipIdx_cons, List.zipIdx_nil, List.forIn_cons, List.forIn_nil]

  refine wpAny_bind (wpAny_bind (wpAny_onRaise ?_))
  show wpAny _ _ (Builtin.SmallTypes.nextOrEnd (.ref i1)) _ _ _
  refine nextOrEnd_item (h1.extBut hs₁.extBut D.i1z) (hl1.extBut hs₁.extBut D.l1z) hx fun h₂ h1₂ hs₂ => ?_
  have hTO₂ : IsPair h₂ TO a b := hs₂.extBut _ _ D.TOi1 (hs₁.extBut _ _ D.TOz hTO)
  refine wpAny_bind (wpAny_seqItems hTO₂ rfl ?_)
  refine wpAny_bind (wpAny_updateSeq_pair hTO₂ fun h₃ hTO₃ hs₃ => ?_)
  replace hTO₃ : IsPair h₃ TO x b := hTO₃
  refine wpAny_bind (wpAny_letGo (wpAny_pure ?_))

  refine wpAny_bind (wpAny_bind (wpAny_onRaise ?_))
  show wpAny _ _ (Builtin.SmallTypes.nextOrEnd (.ref i2)) _ _ _
  refine nextOrEnd_item (((h2.extBut hs₁.extBut D.i2z).extBut hs₂.extBut D.i12.symm).extBut hs₃.extBut D.TOi2.symm)
    (((hl2.extBut hs₁.extBut D.l2z).extBut hs₂.extBut D.l2i1).extBut hs₃.extBut D.l2TO) hy fun h₄ h2₄ hs₄ => ?_
  have hTO₄ : IsPair h₄ TO x b := hs₄.extBut _ _ D.TOi2 hTO₃
  refine wpAny_bind (wpAny_seqItems hTO₄ rfl ?_)
  refine wpAny_bind (wpAny_updateSeq_pair hTO₄ fun h₅ hTO₅ hs₅ => ?_)
  replace hTO₅ : IsPair h₅ TO x y := hTO₅
  refine wpAny_bind (wpAny_letGo (wpAny_pure (wpAny_pure ?_)))

  refine wpAny_bind (wpAny_seqItems hTO₅ rfl ?_)
  refine wpAny_bind (wpAny_newTuple ?_)
  have hsz : h₅.objs.size = s.heap.objs.size := by rw [hs₅.1, hs₄.1, hs₃.1, hs₂.1, hs₁.1]
  have hz₅ : IsZs h₅ z TI TO .ellipsis := hs₅.extBut _ _ D.TOz.symm (hs₄.extBut _ _ D.i2z.symm (hs₃.extBut _ _ D.TOz.symm (hs₂.extBut _ _ D.i1z.symm hz₁)))
  have hk₅ : ∀ c o, c ≠ z → c ≠ TO → c ≠ i1 → c ≠ i2 → s.heap.get? c = some o → h₅.get? c = some o := fun c o c1 c2 c3 c4 e =>
    hs₅.extBut _ _ c2 (hs₄.extBut _ _ c4 (hs₃.extBut _ _ c2 (hs₂.extBut _ _ c3 (hs₁.extBut _ _ c1 e))))
  have h1₅ : h₅.IsTupleIter i1 l1 (k1 + 1) := ((h1₂.extBut hs₃.extBut D.TOi1.symm).extBut hs₄.extBut D.i12).extBut hs₅.extBut D.TOi1.symm
  have h2₅ : h₅.IsTupleIter i2 l2 (k2 + 1) := h2₄.extBut hs₅.extBut D.TOi2.symm
  have hzlt : z < h₅.objs.size := Heap.lt_size hz₅
  have hTOlt : TO < h₅.objs.size := Heap.lt_size hTO₅
  have hi1lt : i1 < h₅.objs.size := by obtain ⟨_, e, _⟩ := h1₅; exact Heap.lt_size e
  have hi2lt : i2 < h₅.objs.size := by obtain ⟨_, e, _⟩ := h2₅; exact Heap.lt_size e
  show wpAny _ _ (Builtin.SmallTypes.ownedTupleHandOut (.ref z) (.ref h₅.objs.size) >>= _) _ _ _
  refine wpAny_bind ?_
  unfold Builtin.SmallTypes.ownedTupleHandOut
  have hz₆ : IsZs (h₅.push { cls := .type "tuple", data := .seq #[x, y] }) z TI TO .ellipsis := Heap.get?_push_of_some _ hz₅
  refine wpAny_bind (wpAny_setField_rec hz₆ (by simp) fun h₇ hz₇ hs₇ => ?_)
  replace hz₇ : IsZs h₇ z TI TO (rawInt h₅.objs.size) := hz₇
  refine wpAny_setField_rec hz₇ (by simp) fun h₈ hz₈ hs₈ => ?_
  replace hz₈ : IsZs h₈ z TI TO (rawInt h₅.objs.size) := hz₈
  have up : ∀ c o, c ≠ z → h₅.get? c = some o → h₈.get? c = some o := fun c o c1 e => hs₈.extBut _ _ c1 (hs₇.extBut _ _ c1 (Heap.get?_push_of_some _ e))
  have hT₈ : IsPair h₈ h₅.objs.size x y := hs₈.extBut _ _ (Nat.ne_of_gt hzlt) (hs₇.extBut _ _ (Nat.ne_of_gt hzlt) (Heap.get?_push_size _ rfl))
  have hz8 : h₈.objs.size = h₅.objs.size + 1 := by rw [hs₈.1, hs₇.1, Heap.size_push]
  rw [hsz] at hz₈ hT₈ hz8
  refine wpAny_pure ⟨_, rfl, ?_⟩
  show Q (.ref h₅.objs.size) _
  rw [hsz]
  exact hQ h₈ hz₈ (up _ _ D.TOz hTO₅) (h1₅.at fun o e => up _ o D.i1z e) (h2₅.at fun o e => up _ o D.i2z e) hT₈ hz8 fun c o c1 c2 c3 c4 e => up c o c1 (hk₅ c o c1 c2 c3 c4 e)
theorem zs_next_end {z TI TO i1 i2 l1 l2 : Addr} {k1 k2 : Nat} {xs ys : Array Value} {a b : Value} {Q : Fin → Shared → Prop} (hh : A.handled = none) (D : ZipApart z TI TO i1 i2 l1 l2)
    (hz : IsZs s.heap z TI TO .none) (hTI : IsPair s.heap TI (.ref i1) (.ref i2)) (hTO : IsPair s.heap TO a b)
    (h1 : s.heap.IsTupleIter i1 l1 k1) (h2 : s.heap.IsTupleIter i2 l2 k2) (hl1 : s.heap.IsTuple l1 xs) (hl2 : s.heap.IsTuple l2 ys) (hx : xs[k1]? = none) (hy : ys[k2]? = none)
    (hE : ∀ h' e, (∀ c o, c ≠ z → c ≠ TO → c ≠ i1 → c ≠ i2 → s.heap.get? c = some o → h'.get? c = some o) → (∃ o, h'.get? e = some o ∧ o.cls = .type "StopIteration") → E (.ref e) { s with heap := h' }) :
    wpAny (model prog w) A (Builtin.«zip.__next__» ⟨[.ref z], []⟩) Q E s := by
  show wpAny _ _ (field (.ref z) 2 >>= _) _ _ _
  refine wpAny_bind (wpAny_field hz rfl (x := .bool true) rfl ?_)
  show wpAny _ _ (field (.ref z) 3 >>= _) _ _ _
  refine wpAny_bind (wpAny_field hz rfl (x := .ref TI) rfl ?_)
  refine wpAny_bind (wpAny_seqItems hTI rfl ?_)
  show wpAny _ _ (Builtin.SmallTypes.ownedTupleIsFree (.ref z) >>= _) _ _ _
  refine wpAny_bind ?_
  unfold Builtin.SmallTypes.ownedTupleIsFree
  refine wpAny_bind (wpAny_field hz rfl (x := .none) rfl (wpAny_pure ?_))
  simp only [if_true]
  refine wpAny_bind (wpAny_rule ?_)
  refine wpAny_bind (wpAny_field hz rfl (x := .ref TO) rfl ?_)
  refine wpAny_bind (wpAny_setField_rec hz (by simp) fun h₁ hz₁ hs₁ => ?_)
  replace hz₁ : IsZs h₁ z TI TO .ellipsis := hz₁
  refine wpAny_bind ?_
  simp only [List.zipIdx_cons, List.zipIdx_nil, List.forIn_cons, List.forIn_nil]
  refine wpAny_bind (wpAny_bind (wpAny_onRaise ?_))
  show wpAny _ _ (Builtin.SmallTypes.nextOrEnd (.ref i1)) _ _ _
  refine nextOrEnd_end hh (h1.extBut hs₁.extBut D.i1z) (hl1.extBut hs₁.extBut D.l1z) hx fun h₂ hs₂ => ?_
  have hz₂ : IsZs h₂ z TI TO .ellipsis := hs₂ _ _ D.i1z.symm hz₁
  refine wpAny_bind (wpAny_setField_rec hz₂ (by simp) fun h₃ _ hs₃ => ?_)
  refine wpAny_bind ?_
  show wpAny _ _ (forIn [((Value.ref i2), 1)] _ _ >>= _) _ _ _
  simp only [List.forIn_cons, List.forIn_nil]
  refine wpAny_bind (wpAny_bind ?_)
  show wpAny _ _ (Builtin.SmallTypes.nextOrEnd (.ref i2) >>= _) _ _ _
  refine wpAny_bind (nextOrEnd_end hh ((h2.at fun o e => hs₃.extBut _ _ D.i2z (hs₂ _ _ D.i12.symm (hs₁.extBut _ _ D.i2z e)))) (hl2.at fun o e => hs₃.extBut _ _ D.l2z (hs₂ _ _ D.l2i1 (hs₁.extBut _ _ D.l2z e))) hy fun h₄ hs₄ => ?_)
  show wpAny _ _ (pure (ForInStep.yield PUnit.unit)) _ _ _
  refine wpAny_pure (wpAny_pure (wpAny_bind (wpAny_rule (stop_raised hh fun h₅ e hk he => ?_))))
  exact hE h₅ e (fun c o c1 c2 c3 c4 x => hk _ _ (hs₄ _ _ c4 (hs₃.extBut _ _ c1 (hs₂ _ _ c3 (hs₁.extBut _ _ c1 x))))) he
theorem pyNext_zs_item {z TI TO i1 i2 l1 l2 : Addr} {k1 k2 : Nat} {xs ys : Array Value} {x y a b : Value} {Q : Option Value → Shared → Prop} (D : ZipApart z TI TO i1 i2 l1 l2)
    (hz : IsZs s.heap z TI TO .none) (hTI : IsPair s.heap TI (.ref i1) (.ref i2)) (hTO : IsPair s.heap TO a b)
    (h1 : s.heap.IsTupleIter i1 l1 k1) (h2 : s.heap.IsTupleIter i2 l2 k2) (hl1 : s.heap.IsTuple l1 xs) (hl2 : s.heap.IsTuple l2 ys) (hx : xs[k1]? = some x) (hy : ys[k2]? = some y)
    (hQ : ∀ h', IsZs h' z TI TO (rawInt s.heap.objs.size) → IsPair h' TO x y → h'.IsTupleIter i1 l1 (k1 + 1) → h'.IsTupleIter i2 l2 (k2 + 1) → IsPair h' s.heap.objs.size x y → h'.objs.size = s.heap.objs.size + 1 →
      (∀ c o, c ≠ z → c ≠ TO → c ≠ i1 → c ≠ i2 → s.heap.get? c = some o → h'.get? c = some o) → Q (some (.ref s.heap.objs.size)) { s with heap := h' }) :
    wpAny (model prog w) A (pyNext (.ref z)) Q E s := by
  have hT : s.TypeIs (.ref z) "zip" := ⟨_, hz, rfl⟩
  unfold pyNext
  exact wpAny_bind (wpAny_attempt (wpAny_callSpecial?_slot (name := Str.ofString "__next__") hT F.slot_zip_next
    (wpAny_call_entry F.slot_zip_next hT F.entry_zip_next
      (zs_next_item D hz hTI hTO h1 h2 hl1 hl2 hx hy fun h' a1 a2 a3 a4 a5 a6 a7 => wpAny_pure (hQ h' a1 a2 a3 a4 a5 a6 a7)) (F.args_zip_next_1 _))))
theorem pyNext_zs_end {z TI TO i1 i2 l1 l2 : Addr} {k1 k2 : Nat} {xs ys : Array Value} {a b : Value} {Q : Option Value → Shared → Prop} (hh : A.handled = none) (D : ZipApart z TI TO i1 i2 l1 l2)
    (hz : IsZs s.heap z TI TO .none) (hTI : IsPair s.heap TI (.ref i1) (.ref i2)) (hTO : IsPair s.heap TO a b)
    (h1 : s.heap.IsTupleIter i1 l1 k1) (h2 : s.heap.IsTupleIter i2 l2 k2) (hl1 : s.heap.IsTuple l1 xs) (hl2 : s.heap.IsTuple l2 ys) (hx : xs[k1]? = none) (hy : ys[k2]? = none)
    (hQ : ∀ h', (∀ c o, c ≠ z → c ≠ TO → c ≠ i1 → c ≠ i2 → s.heap.get? c = some o → h'.get? c = some o) → Q none { s with heap := h' }) : wpAny (model prog w) A (pyNext (.ref z)) Q E s := by
  have hT : s.TypeIs (.ref z) "zip" := ⟨_, hz, rfl⟩
  unfold pyNext
  refine wpAny_bind (wpAny_attempt (wpAny_callSpecial?_slot (name := Str.ofString "__next__") hT F.slot_zip_next
    (wpAny_call_entry F.slot_zip_next hT F.entry_zip_next (zs_next_end hh D hz hTI hTO h1 h2 hl1 hl2 hx hy fun h' e hk he => ?_) (F.args_zip_next_1 _))))
  obtain ⟨o, ho, hc⟩ := he
  refine wpAny_bind (wpAny_isInstance (T := "StopIteration") (b := true) ⟨o, ho, hc⟩ isSubtype_stop ?_)
  exact wpAny_pure (hQ _ hk)
theorem letGo_zs {elts : List Expr} {x1} {pos : Pos} {z TI TO T : Addr} {Q : Unit → Shared → Prop} (hz : IsZs s.heap z TI TO (rawInt T))
    (hQ : ∀ h', IsZs h' z TI TO .none → Heap.SameBut z s.heap h' → Q () { s with heap := h' }) :
    wpAny (model prog w) A (letOwnedTupleGo (.Tuple elts x1 pos) (.ref z) (.ref T)) Q E s := by
  unfold letOwnedTupleGo
  refine wpAny_bind (wpAny_load hz ?_)
  show wpAny _ _ (if (["enumerate", "zip", "dict_itemiterator", "dict_reverseitemiterator", "odict_iterator", "itertools.zip_longest", "itertools.pairwise"].contains "zip" &&
      (#[rawInt T, .bool false, .bool true, .ref TI, .ref TO] : Array Value)[0]? == some (rawInt T)) = true then _ else _) Q E s
  rw [if_pos (by simp)]
  refine wpAny_bind (wpAny_rule ?_)
  show wpAny _ _ (setField (.ref z) 0 .none) Q E s
  exact wpAny_setField_rec hz (by simp) fun h' hz' hs' => hQ h' hz' hs'
theorem pyIter_zs {z TI TO : Addr} {f0 : Value} {Q : Value → Shared → Prop} (hz : IsZs s.heap z TI TO f0) (h : Q (.ref z) s) : wpAny (model prog w) A (pyIter (.ref z)) Q E s := by
  have hT : s.TypeIs (.ref z) "zip" := ⟨_, hz, rfl⟩
  refine wpAny_pyIter_slot hT F.slot_zip_iter (wpAny_call_entry F.slot_zip_iter hT F.entry_zip_iter ?_ (F.args_zip_iter_1 _))
  show wpAny _ _ (ret (.ref z)) _ _ s
  exact wpAny_pure ⟨_, rfl, "zip", _, hT, F.slot_zip_next.lookup, h⟩
end
end G3Z
namespace G3Z
open PySem PySem.Spec PyProof.Rows L2 RZ
def ItzS (K : PySem.W.Frag) (a b : Addr) : It :=
  ⟨fun i H => ∃ (xs ys : List V) (x y : V), SqT K H a xs ∧ SqT K H b ys ∧ xs[i]? = some x ∧ ys[i]? = some y,
    fun i H v H' => ∃ T x y, v = .ref T ∧ H T = none ∧ H' = upd H T (.tup [x, y]) ∧ (∀ xs, SqT K H a xs → xs[i]? = some x) ∧ ∀ ys, SqT K H b ys → ys[i]? = some y,
    fun i H => ∃ xs ys : List V, SqT K H a xs ∧ SqT K H b ys ∧ xs.length ≤ i ∧ ys.length ≤ i⟩
theorem turn_zs {P : Program} {w : World} {K : PySem.W.Frag} {elts : List Expr} {kk : Nat} {tpos : Pos} {a b z TI TO i1 i2 : Addr} (D : ZipApart z TI TO i1 i2 a b) :
    Turn P w K (.Tuple elts kk tpos) (ItzS K a b) [z, TI, TO, i1, i2] z (fun i h => IsZs h z TI TO .none ∧ IsPair h TI (.ref i1) (.ref i2) ∧ (∃ x y, IsPair h TO x y) ∧ h.IsTupleIter i1 a i ∧ h.IsTupleIter i2 b i) where
  mem := by simp
  obj := fun i h st c hc => by
    obtain ⟨hz, hTI, ⟨x, y, hTO⟩, ⟨o1, e1, _, d1⟩, ⟨o2, e2, _, d2⟩⟩ := st
    have e' : c = z ∨ c = TI ∨ c = TO ∨ c = i1 ∨ c = i2 := by simpa using hc
    rcases e' with q | q | q | q | q
    · rw [q]; exact ⟨_, hz, fun v q => nomatch q⟩
    · rw [q]; exact ⟨_, hTI, fun v q => nomatch q⟩
    · rw [q]; exact ⟨_, hTO, fun v q => nomatch q⟩
    · rw [q]; exact ⟨o1, e1, fun v q => by rw [d1] at q; cases q⟩
    · rw [q]; exact ⟨o2, e2, fun v q => by rw [d2] at q; cases q⟩
  keep := fun i h h' st k => by
    obtain ⟨hz, hTI, ⟨x, y, hTO⟩, h1, h2⟩ := st
    exact ⟨k z (by simp) _ hz, k TI (by simp) _ hTI, ⟨x, y, k TO (by simp) _ hTO⟩, h1.at fun o q => k i1 (by simp) o q, h2.at fun o q => k i2 (by simp) o q⟩
  item := by
    intro X hP hw hK hc i pins s σ H E I hf st hg
    subst hP hw hK
    obtain ⟨hz, hTI, ⟨x0, y0, hTO⟩, h1, h2⟩ := st
    obtain ⟨xs, ys, x, y, hqx, hqy, hx, hy⟩ := hg
    obtain ⟨its, rv, p, _⟩ := I.tuple hqx
    obtain ⟨its2, rv2, p2, _⟩ := I.tuple hqy
    obtain ⟨u, hu, ru⟩ := rv.get hx
    obtain ⟨u2, hu2, ru2⟩ := rv2.get hy
    have hzl : z < s.heap.objs.size := Heap.lt_size hz
    refine pyNext_zs_item D hz hTI hTO h1 h2 p p2 (x := u) (y := u2) (by simpa using hu) (by simpa using hu2) fun h' z' TO' h1' h2' hT hsz hk => ?_
    refine ⟨_, rfl, letGo_zs (s := { s with heap := h' }) z' fun h'' z'' sb => ?_⟩
    have hT2 : h''.get? s.heap.objs.size = some { cls := .type "tuple", data := .seq #[u, u2] } := (sb.2 _ (Nat.ne_of_gt hzl)).trans hT
    have new : ObjOk X.prog X.w (upd H s.heap.objs.size (.tup [x, y])) h'' s.heap.objs.size (.tup [x, y]) :=
      ⟨by show 2 ≤ sizeLine; decide, [u, u2], .cons ru (.cons ru2 .nil), ⟨_, hT2, rfl, _, rfl⟩⟩
    have I1 : Inv X pins σ (upd H s.heap.objs.size (.tup [x, y])) { s with heap := h'' } :=
      I.turnedNew (t' := s.toks) (ch := [z, TI, TO, i1, i2]) (fun c o hb q => (sb.2 c (fun q' => hb (by simp [q']))).trans (hk c o (fun q' => hb (by simp [q'])) (fun q' => hb (by simp [q'])) (fun q' => hb (by simp [q'])) (fun q' => hb (by simp [q'])) q)) hf (Nat.le_refl _) new
    refine ⟨.ref s.heap.objs.size, _, I1, rfl, ⟨_, x, y, rfl, I.hok.fresh (Nat.le_refl _), rfl, fun l hl => by rw [I.tuple_inj hl hqx]; exact hx, fun l hl => by rw [I.tuple_inj hl hqy]; exact hy⟩, ⟨z'', ?_, ⟨u, u2, ?_⟩, ?_, ?_⟩, fun c hcm => ?_⟩
    · exact (sb.2 _ D.TIz).trans (hk _ _ D.TIz D.TITO D.TIi1 D.TIi2 hTI)
    · exact (sb.2 _ D.TOz).trans TO'
    · exact h1'.at fun o q => (sb.2 _ D.i1z).trans q
    · exact h2'.at fun o q => (sb.2 _ D.i2z).trans q
    · have hlt : c < s.heap.objs.size := by
        have e' : c = z ∨ c = TI ∨ c = TO ∨ c = i1 ∨ c = i2 := by simpa using hcm
        rcases e' with q | q | q | q | q
        · rw [q]; exact hzl
        · rw [q]; exact Heap.lt_size hTI
        · rw [q]; exact Heap.lt_size hTO
        · rw [q]; obtain ⟨_, e1, _⟩ := h1; exact Heap.lt_size e1
        · rw [q]; obtain ⟨_, e2, _⟩ := h2; exact Heap.lt_size e2
      rw [upd_ne (Nat.ne_of_lt hlt)]
      exact (hf c hcm).1
  done := by
    intro X hP hw hK hc i pins s σ H E I hf st hg
    subst hP hw hK
    obtain ⟨hz, hTI, ⟨x0, y0, hTO⟩, h1, h2⟩ := st
    obtain ⟨xs, ys, hqx, hqy, ha, hb⟩ := hg
    obtain ⟨its, rv, p, _⟩ := I.tuple hqx
    obtain ⟨its2, rv2, p2, _⟩ := I.tuple hqy
    have l1 := rv.length
    have l2 := rv2.length
    exact pyNext_zs_end (I.ok.hd hc) D hz hTI hTO h1 h2 p p2 (by simp; omega) (by simp; omega) fun h' hk => ⟨rfl, I.turnedL (t' := s.toks) (ch := [z, TI, TO, i1, i2]) (fun c o hb q =>
      hk c o (fun q' => hb (by simp [q'])) (fun q' => hb (by simp [q'])) (fun q' => hb (by simp [q'])) (fun q' => hb (by simp [q'])) q) hf⟩
  self := fun A i s Q E st h => pyIter_zs st.1 h
section
variable {M : Model} {A : Around} {E : Value → Shared → Prop} {s : Shared} {env : Env}
theorem callWith_typeK {pos : Pos} {T : String} {e : Expr} {rest : List Expr} {kws : List Keyword} {Q : Value → Shared → Prop}
    (h : wpAny M A (spliced (backTo pos (starEach (e :: rest) env))) (fun vs s₁ => wpAny M A (evalAll ((backToKw pos (keywordEach kws env)).map (·.2)))
      (fun kvs s₂ => wpAny M A (call (.type T) vs (((backToKw pos (keywordEach kws env)).filterMap (·.1)).zip kvs)) Q E s₂) E s₁) E s)
    (he : starEach (e :: rest) env = (false, eval e env) :: starEach rest env := by rfl)
    (hplain : (backTo pos (starEach (e :: rest) env)).any (·.1) = false := by rfl)
    (hall : (backToKw pos (keywordEach kws env)).all (·.1.isSome) = true := by rfl)
    (hkw : (backToKw pos (keywordEach kws env)).any (·.1.isNone) = false := by rfl) :
    wpAny M A (callWith pos (.type T) [] (backTo pos (starEach (e :: rest) env)) (backToKw pos (keywordEach kws env))) Q E s := by
  unfold callWith
  refine wpAny_bind (wpAny_holding (wpAny_mono (evalArgs_kw2 (Q := fun a s₁ => wpAny M A (call (.type T) ([] ++ a.pos) a.kw) Q E s₁) hall h he) (fun a s₁ h₁ => wpAny_bind (wpAny_standAt ?_)) fun _ _ x => x))
  simp only [hplain, hkw, Bool.or_false]
  refine wpAny_bind (wpAny_pure ?_)
  exact wpAny_bind (wpAny_mono h₁ (fun r s₂ hr => wpAny_bind (wpAny_holding (wpAny_point (wpAny_pure hr)))) fun _ _ x => x)
end
def iZipS (K : PySem.W.Frag) (ta : TA) : TI := fun σ H R => ta σ H fun vs H1 => ∃ a b xs ys, vs = [.ref a, .ref b] ∧ SqT K H1 a xs ∧ SqT K H1 b ys ∧ R (ItzS K a b) H1
theorem pi_zipS {X : Cx} {e e2 : Expr} {ta : TA} {p pos tpos kpos cpos : Pos} {elts : List Expr} {kk j : Nat} (hg : Gl X "zip") (hm : X.mg "zip" = none) (ha : PA X [e, e2] ta)
    (hs : starEach [e, e2] X.env = (false, eval e X.env) :: starEach [e2] X.env := by rfl) (hpl : (backTo pos (starEach [e, e2] X.env)).any (·.1) = false := by rfl) :
    PI X (.Tuple elts kk tpos) (.Call (.Name "zip" p) [e, e2] [⟨some (Str.ofString "strict"), .Constant (.bool true) j cpos, kpos⟩] pos) (iZipS X.K ta) := by
  refine ⟨fun pins s σ H R I h => ?_⟩
  refine wpAny_Call_Name_kw (ld_blt I hg hm PyProof.Rows.boot_zip (callWith_typeK (thn (ha.run pos pins s σ H _ I h) fun us s1 ⟨vs, H1, I1, r1, q1⟩ => ?_) hs hpl))
  refine thn ((pk_cons (kpos := kpos) (nm := some (Str.ofString "strict")) (pe_bl (b := true) (j := j) (pos := cpos)) pk_nil).run pos pins s1 σ H1 (fun zs H2 => zs = [.bl true] ∧ H2 = H1) I1 (by first | exact ⟨rfl, rfl⟩ | (show _; exact ⟨rfl, rfl⟩))) fun ws s2 ⟨zs, H2, I2, rz, ez, eH⟩ => ?_
  subst ez eH
  have ew : ws = [.bool true] := by
    cases rz with
    | cons r rr =>
      cases rr
      cases r
      rfl
  subst ew
  obtain ⟨a, b, xs, ys, ex, hqx, hqy, q⟩ := q1
  subst ex
  cases r1 with
  | cons r rr =>
    cases rr with
    | cons r' rr =>
      cases rr
      cases r
      cases r'
      have fresh5 : ∀ c, c ∈ [s2.heap.objs.size + 4, s2.heap.objs.size + 2, s2.heap.objs.size + 3, s2.heap.objs.size, s2.heap.objs.size + 1] → FpOk X pins H2 c := fun c hcm => by
        have e' : c = s2.heap.objs.size + 4 ∨ c = s2.heap.objs.size + 2 ∨ c = s2.heap.objs.size + 3 ∨ c = s2.heap.objs.size ∨ c = s2.heap.objs.size + 1 := by simpa using hcm
        have hle : s2.heap.objs.size ≤ c := by
          rcases e' with z | z | z | z | z
          · rw [z]; exact Nat.le_add_right _ _
          · rw [z]; exact Nat.le_add_right _ _
          · rw [z]; exact Nat.le_add_right _ _
          · rw [z]; exact Nat.le_refl _
          · rw [z]; exact Nat.le_add_right _ _
        exact I2.fpOk hle (I2.hok.fresh hle)
      obtain ⟨its, rv, p1, _⟩ := I2.tuple hqx
      obtain ⟨its2, rv2, p2, _⟩ := I2.tuple hqy
      obtain ⟨o1, ho1, _⟩ := id p1
      obtain ⟨o2, ho2, _⟩ := id p2
      refine call_zs (show s2.heap.IsTuple a its.toArray from p1) (show s2.heap.IsTuple b its2.toArray from p2) fun h' hz hTI hTO h1 h2 hsz hk => pyIter_zs hz ?_
      have I3 : Inv X pins σ H2 { s2 with heap := h' } := I2.kept (t' := s2.toks) hk
      exact ⟨s2.heap.objs.size + 4, [s2.heap.objs.size + 4, s2.heap.objs.size + 2, s2.heap.objs.size + 3, s2.heap.objs.size, s2.heap.objs.size + 1], _, _, H2, rfl, I3, turn_zs (PySem.W.ktu_apart s2.heap.objs.size a b (Heap.lt_size ho1) (Heap.lt_size ho2)), ⟨hz, hTI, ⟨_, _, hTO⟩, h1, h2⟩, fresh5, q⟩
end G3Z
namespace G3
open PySem L2 RZ
@[simp] def gZipS (gs : GA) : GI := fun ρ h R => gs ρ h fun ds h1 => ∃ xs ys, ds = [.tup xs, .tup ys] ∧ xs.length = ys.length ∧ R (pairs xs ys) h1
theorem i_zipS {X : Cx} {es : List Expr} {kk j : Nat} {a b : Expr} {p pos tpos kpos cpos : Pos} {gs : GA} (hg : Gl X "zip") (hm : X.mg "zip" = none) (ha : A3 X [a, b] gs)
    (hs : starEach [a, b] X.env = (false, eval a X.env) :: starEach [b] X.env := by rfl) (hpl : (backTo pos (starEach [a, b] X.env)).any (·.1) = false := by rfl) :
    I3 X (.Tuple es kk tpos) (.Call (.Name "zip" p) [a, b] [⟨some (Str.ofString "strict"), .Constant (.bool true) j cpos, kpos⟩] pos) (gZipS gs) := PIimp (G3Z.pi_zipS hg hm ha hs hpl) fun σ H R ⟨ρ, w, R3, e, gd, q, out⟩ => by
  subst e
  refine ⟨ρ, w, _, rfl, gd, q, fun ds w1 vs hq r1 e1 p1 => ?_⟩
  obtain ⟨xs, ys, e2, hl, q1⟩ := hq
  subst e2
  obtain ⟨x, y, e3, px, py⟩ := p1.two
  subst e3
  have ln := pairs_len xs ys
  cases px with
  | tup t ra =>
    cases py with
    | tup t2 rb =>
      have la := ra.length
      have lb := rb.length
      refine ⟨_, _, _, _, rfl, r1.sqT t, r1.sqT t2, out _ w1 _ q1 r1 e1 ⟨fun i w' e' r' hi => ?_, fun i w' x H'' e' r' ⟨T, x1, y1, ev, hT, eH, hx, hy⟩ d hd => ?_, fun w' e' r' => ?_⟩⟩
      · exact ⟨_, _, _, _, r'.sqT (t.ext e'.fz), r'.sqT (t2.ext e'.fz), List.getElem?_eq_getElem (by omega), List.getElem?_eq_getElem (by omega)⟩
      · subst ev eH
        exact zip_yld r' e' ra rb (hx _ (r'.sqT (t.ext e'.fz))) (hy _ (r'.sqT (t2.ext e'.fz))) hT hd
      · exact ⟨_, _, r'.sqT (t.ext e'.fz), r'.sqT (t2.ext e'.fz), by omega, by omega⟩
end G3

namespace G3
open PySem L2 RZ
/-! ### min of a list of data -/
section
open PySem.W
variable {prog : Program} {w : World} {A : Around} {E : Value → Shared → Prop} {s : Shared}
/-- min of a list of alike data: which item it is -/
theorem min_at {l : Addr} {vs : Array Value} {x : PyData} {xs : List PyData} {as : List Addr} {Q : Value → Shared → Prop} (hh : A.handled = none) (hl : s.heap.IsList l vs) (hr : ReadsAll s.heap vs.toList (x :: xs) as) (ha : AlikeAll (x :: xs)) (hu : A.units + 1 + PyData.depthAll (x :: xs) < cLine)
    (h : ∀ (i : Nat) v h' tk, vs[i]? = some v → (x :: xs).getD i .none = minD x xs → (∀ b o, s.heap.get? b = some o → h'.get? b = some o) → Q v { s with heap := h', toks := tk }) :
    wpAny (model prog w) A (call (.builtin "min") [.ref l]) Q E s := by
  have hn : vs.size = xs.length + 1 := readsAll_len hr
  refine call_min_walkH (iter_listW (A := A.in1) hh hl fun s₂ e W st hfp hw hk => ?_)
  refine ⟨_, _, _, _, _, _, _, s.heap, _, rfl, W, st, hfp, by omega, hw, hk, cmpIn_lt (A := A.in1) hr ha (by show A.units + 1 + _ < _; exact hu), fun v s' hP m => ?_⟩
  obtain ⟨h', tk, rfl, hk'⟩ := moved_old e rfl m
  have e1 : vs.size - 1 = xs.length := by omega
  have e2 := (argBest_fold dataLt PyData.none x xs xs.length (Nat.le_refl _)).2
  rw [List.take_length] at e2
  rw [e1] at hP
  exact h _ v h' tk hP (by unfold minD; exact e2) hk'
end
def cMinD : DC := fun ds h Q => ∃ d x xs, ds = [d] ∧ lstOf h d = some (x :: xs) ∧ dats (x :: xs) = true ∧ (∀ y, y ∈ x :: xs → dep y ≤ 60) ∧ PySem.W.AlikeAll ((x :: xs).map py) ∧ ∀ m ∈ x :: xs, py m = PySem.W.minD (py x) (xs.map py) → Q m h
theorem depthAll_le : ∀ {xs : List Dv} {n : Nat}, (∀ y, y ∈ xs → dep y ≤ n) → PyData.depthAll (xs.map py) ≤ n
  | [], n, _ => by simp [PyData.depthAll]
  | x :: xs, n, h => by
    have h1 := h x List.mem_cons_self
    have h2 := depthAll_le (xs := xs) fun y hy => h y (List.mem_cons_of_mem _ hy)
    rw [List.map_cons, PyData.depthAll, depth_py]
    omega
theorem c_minD {X : Cx} (hc : X.calm = true) (hu : X.A.units + 64 < cLine) : C3 X (.builtin "min") cMinD := by
  intro pins s σ H vs us Q I rx h
  obtain ⟨ds, w, Q3, e, r, ra, ⟨d, x0, xs, rfl, hs, hd, hdp, hal, q⟩, out⟩ := h
  subst e
  obtain ⟨x, rfl, rp⟩ := ra.one
  obtain ⟨p, ys, rfl, hq, rb⟩ := lstOf_at r rp hs
  obtain ⟨its, rv, hl, hz⟩ := I.list hq
  rw [Vals.ref1 rx]
  have hlen := rb.length
  obtain ⟨z2, z1⟩ := zip_snd hlen
  have hmem : ∀ b, b ∈ ys.zip (x0 :: xs) → Rp X.K w b.2 b.1 ∧ b.2 ∈ x0 :: xs := fun b hb => ⟨rpAll_zip rb b hb, (List.of_mem_zip hb).2⟩
  have ee := eachIs_pairs rb rv
  have er : PySem.W.EachIs (fun u (b : V × Dv) => ∃ as, Reads s.heap u (py b.2) as) its (ys.zip (x0 :: xs)) := each_mem ee fun u b hb rel => reads_of I rfl r (hmem b hb).1 rel (dats_mem hd _ (hmem b hb).2)
  have em : (ys.zip (x0 :: xs)).map (fun b => py b.2) = (x0 :: xs).map py := by
    have q2 : (ys.zip (x0 :: xs)).map (fun b => py b.2) = ((ys.zip (x0 :: xs)).map (fun b => b.2)).map py := by rw [List.map_map]; rfl
    rw [q2, z2]
  obtain ⟨as, ha⟩ := PySem.W.each_readsAll (fun b : V × Dv => py b.2) er
  rw [em] at ha
  have dl := depthAll_le hdp
  refine min_at (I.ok.hd hc) hl.isList (x := py x0) (xs := xs.map py) (as := as) (by exact ha) hal (by
    show X.A.units + 1 + PyData.depthAll ((x0 :: xs).map py) < cLine
    omega) fun i v h' tk hi hm hk => ?_
  have hi' : its[i]? = some v := by simpa using hi
  have hil : i < its.length := (List.getElem?_eq_some_iff.1 hi').1
  have lr := rv.length
  have hy : ys[i]? = some ys[i] := List.getElem?_eq_getElem (by omega)
  obtain ⟨dd, hd1, hd2⟩ := rb.get hy
  obtain ⟨u, hu2, ru⟩ := rv.get hy
  rw [hi'] at hu2
  cases hu2
  refine ⟨_, w.H, I.kept hk, ru, out.go r (Ext.refl w) hd2 (q dd (List.mem_of_getElem? hd1) ?_)⟩
  rw [← hm]
  have : (py x0 :: xs.map py) = (x0 :: xs).map py := rfl
  rw [this, List.getD_eq_getElem?_getD, List.getElem?_map, hd1]
  rfl
def cMin2 : DC := fun ds h Q => cMinL ds h Q ∨ cMinD ds h Q
theorem c_min2 {X : Cx} (hc : X.calm = true) (hu : X.A.units + 64 < cLine) : C3 X (.builtin "min") cMin2 := by
  intro pins s σ H vs us Q I rx h
  obtain ⟨ds, w, Q3, e, r, ra, q, out⟩ := h
  rcases q with q | q
  · exact c_minL hc pins s σ H vs us Q I rx ⟨ds, w, Q3, e, r, ra, q, out⟩
  · exact c_minD hc hu pins s σ H vs us Q I rx ⟨ds, w, Q3, e, r, ra, q, out⟩
/-! ### the least of pairs of ints -/
def pairI (p : Int × Int) : Dv := .tup [.int p.1, .int p.2]
end G3

namespace G3
open PySem L2 RZ
/-! ### a < b of alike data -/
def ltD (a b : Dv) : Bool := PySem.W.dataLt (py a) (py b)
def rLtA : D2 := fun a b h Q => okE a ∧ okE b ∧ PySem.W.alike (py a) (py b) = true ∧ a ≠ .non ∧ Q (.bl (ltD a b)) h
theorem o_ltA {X : Cx} (hu : X.A.units + 64 < cLine) : OpR X (compareOp .Lt) (lo2 X.K rLtA) := by
  intro pins s σ H x y v u Q I rx ry h
  obtain ⟨a, b, w, Q3, e, r, pa, pb, ⟨oa, ob, al, hn, q⟩, out⟩ := h
  obtain ⟨as, r1⟩ := reads_of I e r pa rx oa.1
  obtain ⟨bs, r2⟩ := reads_of I e r pb ry ob.1
  subst e
  refine PySem.W.rcLt_alike _ _ X.A s v u as bs r1 r2 al (fun z => ?_) (by rw [depth_py, depth_py]; have := oa.2; omega) X.prog X.w X.xe _ ⟨.bl _, w.H, I, rfl, out.go r (Ext.refl w) (.bl _) q⟩
  have hd := oa.1
  cases a <;> first | exact hn rfl | (simp [dat] at hd; done) | (simp [py] at z; done)
theorem ltD_irrefl (a : Dv) : ltD a a = false := PyProof.Rows.lex_irrefl _
theorem ltD_trans {a b c : Dv} (h : ltD a b = true) (h' : ltD b c = true) : ltD a c = true := PyProof.Rows.lex_trans _ _ _ h h'
/-! ### while, by a measure -/
theorem wWh_of {c : GT} {b : GS} {E : En} (I : Nat → Sl → Mh → Prop)
    (step : ∀ m ρ h (N : Sl → Mh → Prop), I m ρ h → (∀ m' ρ' h', m' < m → I m' ρ' h' → N ρ' h') → c ρ h fun k h1 => if k = true then b { E with nx := N, ct := N, bk := E.nx } ρ h1 else E.nx ρ h1) :
    ∀ n m ρ h, m < n → I m ρ h → wWh c b n E ρ h
  | 0, _, _, _, l, _ => absurd l (Nat.not_lt_zero _)
  | n + 1, m, ρ, h, l, i => step m ρ h _ i fun m' ρ' h' l' i' => wWh_of I step n m' ρ' h' (by omega) i'
theorem while_of {c : GT} {b : GS} {E : En} {ρ : Sl} {h : Mh} {m : Nat} (I : Nat → Sl → Mh → Prop) (i : I m ρ h)
    (step : ∀ m ρ h (N : Sl → Mh → Prop), I m ρ h → (∀ m' ρ' h', m' < m → I m' ρ' h' → N ρ' h') → c ρ h fun k h1 => if k = true then b { E with nx := N, ct := N, bk := E.nx } ρ h1 else E.nx ρ h1) : gWhile c b E ρ h :=
  ⟨m + 1, wWh_of I step (m + 1) m ρ h (Nat.lt_succ_self m) i⟩
/-! ### how many of some are less -/
def rankD (U : List Dv) (x : Dv) : Nat := (U.filter fun y => ltD y x).length
theorem rankD_lt {U : List Dv} {x y : Dv} (hx : x ∈ U) (h : ltD x y = true) : rankD U x < rankD U y := by
  unfold rankD
  have gen : ∀ U : List Dv, (U.filter fun z => ltD z x).length ≤ (U.filter fun z => ltD z y).length ∧ (x ∈ U → (U.filter fun z => ltD z x).length < (U.filter fun z => ltD z y).length) := by
    intro U
    induction U with
    | nil => exact ⟨Nat.le_refl _, fun z => by cases z⟩
    | cons u U ih =>
      rw [List.filter_cons, List.filter_cons]
      by_cases hu : ltD u x = true
      · rw [if_pos hu, if_pos (ltD_trans hu h)]
        refine ⟨Nat.succ_le_succ ih.1, fun hm => ?_⟩
        rcases List.mem_cons.mp hm with rfl | hm
        · rw [ltD_irrefl] at hu; cases hu
        · exact Nat.succ_lt_succ (ih.2 hm)
      · rw [if_neg hu]
        by_cases hv : ltD u y = true
        · rw [if_pos hv]
          exact ⟨Nat.le_succ_of_le ih.1, fun _ => Nat.lt_succ_of_le ih.1⟩
        · rw [if_neg hv]
          refine ⟨ih.1, fun hm => ?_⟩
          rcases List.mem_cons.mp hm with rfl | hm
          · exact absurd h hv
          · exact ih.2 hm
  exact (gen U).2 hx
theorem rankD_le (U : List Dv) (x : Dv) : rankD U x ≤ U.length := List.length_filter_le _ _
end G3

namespace G3
open PySem PySem.Spec PyProof.Rows L2

/-! ### a lambda is made -/
theorem cloFrom_nil (cells : List (Str × Addr)) : ∀ (ns : List (Str × NameKind)) (acc : List (Str × Addr)), (∀ y ∈ ns, y.2 ≠ .free) → L2.cloFrom cells ns acc = acc
  | [], _, _ => rfl
  | (n, k) :: r, acc, h => by
    have hk : k ≠ NameKind.free := h (n, k) List.mem_cons_self
    have e : (k == NameKind.free) = false := beq_eq_false_iff_ne.mpr hk
    unfold L2.cloFrom
    rw [e]
    exact cloFrom_nil cells r acc fun y hy => h y (List.mem_cons_of_mem _ hy)
section
variable {X : Cx} {pins : List (Addr × Obj)} {σ : L2.St} {s : Shared} {w : Wd}
/-- the state in which a code object is new: it stands in the table at P -/
theorem Rel.code {K : PySem.W.Frag} (r : Rel K w) {P c : Addr} {q : Str} {ps : Array Value} {pos : Pos} (hP : w.H P = some (.tbl ps)) (hc : w.H c = none) (hq : lamQ K P = some q) :
    Rel K ⟨w.h, upd w.G c (LamX.CodeO c q), upd (upd w.H P (.tbl (ps ++ #[rawInt pos.line, rawInt pos.col, .ref c]))) c (LamX.CodeO c q)⟩ ∧
      Ext w ⟨w.h, upd w.G c (LamX.CodeO c q), upd (upd w.H P (.tbl (ps ++ #[rawInt pos.line, rawInt pos.col, .ref c]))) c (LamX.CodeO c q)⟩ := by
  obtain ⟨gc, mc⟩ := r.hnone hc
  obtain ⟨tm, tG, ht, ha⟩ := r.tab P ps hP
  have nPc : P ≠ c := fun z => by rw [z, hc] at hP; cases hP
  have at_ : ∀ b, b ≠ P → b ≠ c → upd (upd w.H P (.tbl (ps ++ #[rawInt pos.line, rawInt pos.col, .ref c]))) c (LamX.CodeO c q) b = w.H b := fun b h1 h2 => by rw [upd_ne h2, upd_ne h1]
  have ex : Ext w ⟨w.h, upd w.G c (LamX.CodeO c q), upd (upd w.H P (.tbl (ps ++ #[rawInt pos.line, rawInt pos.col, .ref c]))) c (LamX.CodeO c q)⟩ := by
    refine ⟨fun b x h1 h2 => ⟨?_, h1⟩, fun b x h1 h2 nt => ?_, fun b m h1 _ => ?_⟩
    · show upd w.G c _ b = _
      rw [upd_ne (fun z => by rw [z, gc] at h2; cases h2)]
      exact h2
    · have n1 : b ≠ c := fun z => by rw [z, hc] at h2; cases h2
      have n2 : b ≠ P := fun z => by
        rw [z, hP] at h2
        exact nt ps (Option.some.inj h2).symm
      exact ⟨by show upd w.G c _ b = _; rw [upd_ne n1]; exact h1, (at_ b n2 n1).trans h2⟩
    · have n1 : b ≠ c := fun z => by rw [z, mc] at h1; cases h1
      have n2 : b ≠ P := fun z => by rw [z, tm] at h1; cases h1
      exact ⟨h1, upd_ne n1, at_ b n2 n1⟩
  refine ⟨⟨fun b x h => ?_, fun b m h => ?_, fun P2 ps2 e => ?_, fun t ht => ?_⟩, ex⟩
  · have h : upd w.G c (LamX.CodeO c q) b = some x := h
    by_cases n : b = c
    · subst n
      rw [upd_same] at h
      cases h
      exact .inl upd_same
    · rw [upd_ne n] at h
      have n2 : b ≠ P := fun z => by rw [z, tG] at h; cases h
      rcases r.sub b x h with z | ⟨z1, nt, o, z⟩
      · exact .inl ((at_ b n2 n).trans z)
      · exact .inr ⟨z1, nt, o, (at_ b n2 n).trans z⟩
  · have h : w.h b = some m := h
    have n1 : b ≠ c := fun z => by rw [z, mc] at h; cases h
    have n2 : b ≠ P := fun z => by rw [z, tm] at h; cases h
    exact RpO.fz ex.fz (fun x z => by show upd w.G c _ b = _; rw [upd_ne n1]; exact z) (fun _ => at_ b n2 n1) (r.obj b m h)
  · have e : upd (upd w.H P (.tbl (ps ++ #[rawInt pos.line, rawInt pos.col, .ref c]))) c (LamX.CodeO c q) P2 = some (.tbl ps2) := e
    have n1 : P2 ≠ c := fun z => by
      rw [z, upd_same] at e
      exact LamX.codeO_ne _ (Option.some.inj e)
    rw [upd_ne n1] at e
    have old : ∀ c0 q0, w.h c0 = none → w.G c0 = some (LamX.CodeO c0 q0) → upd w.G c (LamX.CodeO c q) c0 = some (LamX.CodeO c0 q0) := fun c0 q0 h1 h2 => by
      rw [upd_ne (fun z => by rw [z, gc] at h2; cases h2)]
      exact h2
    by_cases n2 : P2 = P
    · subst n2
      rw [upd_same] at e
      cases e
      have eL : (ps ++ #[rawInt pos.line, rawInt pos.col, .ref c]).toList = ps.toList ++ [rawInt pos.line, rawInt pos.col, .ref c] := by simp
      refine ⟨tm, by show upd w.G c _ _ = _; rw [upd_ne n1]; exact tG, by rw [eL]; exact PySem.TriplesOk_snoc _ _ _ _ ht, fun p' cv hcv => ?_⟩
      rw [eL] at hcv
      rcases LamX.among_app _ ht hcv with z | z
      · obtain ⟨c0, q0, e1, e2, e3, e4⟩ := ha p' cv z
        exact ⟨c0, q0, e1, e2, e3, old _ _ e3 e4⟩
      · exact ⟨c, q, z, hq, mc, upd_same⟩
    · rw [upd_ne n2] at e
      obtain ⟨a1, a2, a3, a4⟩ := r.tab P2 ps2 e
      refine ⟨a1, by show upd w.G c _ _ = _; rw [upd_ne n1]; exact a2, a3, fun p' cv hcv => ?_⟩
      obtain ⟨c0, q0, e1, e2, e3, e4⟩ := a4 p' cv hcv
      exact ⟨c0, q0, e1, e2, e3, old _ _ e3 e4⟩
  · obtain ⟨ps2, e⟩ := r.all t ht
    have n1 : t.2.2.2 ≠ c := fun z => by rw [z, hc] at e; cases e
    by_cases n2 : t.2.2.2 = P
    · exact ⟨_, by show upd (upd w.H P _) c _ _ = _; rw [upd_ne n1, n2, upd_same]⟩
    · exact ⟨ps2, (at_ _ n2 n1).trans e⟩
/-- a function object that is new is told from now on -/
theorem lam_track {H H1 : Hp} {s1 : Shared} {f : Addr} {q : Str} {p : Arguments} {b : Expr} {sc : Scope} {c : Addr} {pm ctv : Value} (I : L2.Inv X pins σ H s) (I1 : L2.Inv X pins σ H1 s1) (hf : s.heap.objs.size ≤ f) (hn : H1 f = none)
    (e : s1.heap.get? f = some (PySem.W.kla_obj "<lambda>" q p b sc [] pm c ctv)) : L2.Inv X pins σ (upd H1 f (LamO f q p b sc c)) s1 := by
  have old : ∀ {a : Addr} {o : Obj}, s.heap.get? a = some o → a ≠ f := fun {a o} z y => by
    rw [y] at z
    exact Nat.lt_irrefl _ (Nat.lt_of_lt_of_le (Heap.lt_size z) hf)
  refine Inv.track I1 hn ?_ (fun z => ?_) (fun x c z y => ?_) (fun p hp y => ?_) ⟨⟨pm, ctv, e⟩, ⟨_, e⟩, fun h1 h2 ⟨pm, ct, z⟩ st => ⟨pm, ct, st _ z⟩⟩
  · cases z : X.s_0.heap.get? f with
    | none => rfl
    | some u => exact absurd (Heap.lt_size z) (Nat.not_lt.mpr (Nat.le_trans I.sz hf))
  · have h1 := I.lt
    rw [← z] at h1
    exact Nat.lt_irrefl _ (Nat.lt_of_lt_of_le h1 hf)
  · obtain ⟨v, o, ho, _⟩ := I.cell x c z
    exact old ho y
  · exact old (I.pin p hp).1 y
/-- what is known of the def n that hands over a lambda -/
structure LamD (K : PySem.W.Frag) (mg : Str → Option Value) (base : Heap) (n : Str) (fd : FuncData) (p : Arguments) (b : Expr) (sc : Scope) : Prop where
  tx : LamTx K n p b sc
  ex : ∃ c P, fd.code = .ref c ∧ LamX.TabB base mg c P ∧ (∃ t ∈ lamTabs K, t.2.2.2 = P) ∧ lamQ K P = some (lq n)
@[simp] def gLam (n : Str) : GE := fun _ h Q => ∀ p, h p = none → Q (.ref p) (mput h p (.lam n))
theorem e_lam {n : Str} {fd : FuncData} {params : Arguments} {body : Expr} {scope : Scope} {pos : Pos} (D : LamD X.K X.mg X.base n fd params body scope) (hc : fd.code = X.env.code) (hn : X.env.qual ++ "<lambda>" = lq n := by rfl) (hdef : defaultsOf params X.env = ([], []) := by rfl)
    (hfree : (scope.names.all fun y => y.2 != .free) = true := by decide) : E3 X (.Lambda params body scope pos) (gLam n) := by
  have hfr : ∀ y ∈ scope.names, y.2 ≠ .free := fun y hy => by
    have := List.all_eq_true.mp hfree y hy
    simpa using this
  obtain ⟨c, P, hcode, TB, ⟨t, htm, htP⟩, hq⟩ := D.ex
  rw [hc] at hcode
  refine ⟨fun pins s σ H Q I ⟨ρ, w, Q3, eH, gd, q, out⟩ => ?_⟩
  subst eH
  have r := gd.rel
  obtain ⟨ps, hP⟩ := r.all t htm
  rw [htP] at hP
  obtain ⟨tm, tG, ht, ha⟩ := r.tab P ps hP
  refine PySem.W.kla_eval hdef ?_
  have bP : s.heap.BuiltinsAt X.mg P := TB.bm.keeps I.bk
  have hP' : s.heap.get? P = some { cls := .none, data := .fields ps } := I.hok P _ hP
  have hcl := L2.closure_ok (env := X.env) (scope := scope) (fun y hy e => absurd e (hfr y hy))
  rw [cloFrom_nil _ _ _ hfr] at hcl
  have fin : ∀ (w1 : Wd) (s1 : Shared) (f c' : Addr) (pm ctv : Value), L2.Inv X pins σ w1.H s1 → Rel X.K w1 → Ext w w1 → w1.h = w.h → s.heap.objs.size ≤ f → w1.H f = none → w1.h c' = none → w1.G c' = some (LamX.CodeO c' (lq n)) →
      s1.heap.get? f = some (PySem.W.kla_obj "<lambda>" (lq n) params body scope [] pm c' ctv) → EP X pins σ Q (.ref f) s1 := by
    intro w1 s1 f c' pm ctv I1 r1 e1 hw hf hn1 hc1 hc2 e
    obtain ⟨r2, e2⟩ := r1.put (p := f) (u := LamO f (lq n) params body scope c') (m := .lam n) (.inl hn1) fun v ex g => by
      obtain ⟨z1, z2⟩ := ex.fz c' _ hc1 hc2
      exact ⟨params, body, scope, c', D.tx, g, z2, z1⟩
    exact ⟨.ref f, _, lam_track I I1 hf hn1 e, rfl, out.go r2 (e1.trans e2) (.ref f) (by
      show Q3 (.ref f) (mput w1.h f (.lam n))
      rw [hw]
      refine q f ?_
      rw [← hw]
      exact (r1.hnone hn1).2)⟩
  rw [hn]
  cases hca : codeAmong pos ps.toList with
  | none =>
    refine PySem.W.kla_makeFunction (mg := X.mg) (c := c) (P := P) (ps := ps) hcl I.ok.glob (I.mod.glob.keeps I.bk) hcode (TB.code.keeps I.bk) hP' ht hca TB.gP bP fun c' ctv h' tk hx hge hlt hrec htb => ?_
    obtain ⟨c2, oc, vs, tq, e2, hoc, hd, hv⟩ := hrec
    cases e2
    have hsz : s.heap.objs.size ≤ h'.objs.size := Nat.le_trans hge (Nat.le_of_lt hlt)
    have nC : w.H c' = none := I.hok.fresh hge
    have I1 := LamX.inv_table (t' := tk) (more := #[rawInt pos.line, rawInt pos.col, .ref c']) (h' := h'.push (PySem.W.kla_obj "<lambda>" (lq n) params body scope [] ((X.mg "__name__").getD .none) c' ctv)) I hP
      (fun b o hb e => Heap.get?_push_of_some _ (hx b o hb e)) (Heap.get?_push_of_some _ htb) hge ⟨oc, vs, tq, Heap.get?_push_of_some _ hoc, hd, hv⟩
    obtain ⟨r1, e1⟩ := r.code (pos := pos) hP nC hq
    refine fin _ _ h'.objs.size c' ((X.mg "__name__").getD .none) ctv I1 r1 e1 rfl hsz ?_ (r.hnone nC).2 upd_same (Heap.get?_push_size _ rfl)
    have n1 : h'.objs.size ≠ c' := Nat.ne_of_gt hlt
    have n2 : h'.objs.size ≠ P := Nat.ne_of_gt (Nat.lt_of_lt_of_le (Heap.lt_size hP') hsz)
    show upd (upd w.H P _) c' _ _ = none
    rw [upd_ne n1, upd_ne n2]
    exact I.hok.fresh hsz
  | some cv =>
    obtain ⟨c', q0, ecv, eq0, hc1, hc2⟩ := ha pos cv hca
    subst ecv
    rw [hq] at eq0
    cases eq0
    refine PySem.W.kla_makeFunctionHit (mg := X.mg) (c := c) (P := P) (ps := ps) hcl I.ok.glob (I.mod.glob.keeps I.bk) hcode (TB.code.keeps I.bk) hP' ht hca bP fun ctv h' tk hx hsz => ?_
    have I1 : L2.Inv X pins σ w.H { s with heap := h'.push (PySem.W.kla_obj "<lambda>" (lq n) params body scope [] ((X.mg "__name__").getD .none) c' ctv), toks := tk } := I.kept fun b o e => Heap.get?_push_of_some _ (hx b o e)
    exact fin w _ h'.objs.size c' ((X.mg "__name__").getD .none) ctv I1 r (Ext.refl w) rfl hsz (I.hok.fresh hsz) hc1 hc2 (Heap.get?_push_size _ rfl)
end

/-! ### a lambda is called -/
/-- what the lambda of n promises, over trees -/
structure LamG (P : Program) (w : World) (K : PySem.W.Frag) (mg : Str → Option Value) (base : Heap) (k : Nat) (n : Str) (m : Nat) (sp : Sp3) : Prop where
  len : ∀ ds h Q, sp ds h Q → ds.length = m
  run : ∀ (A : Around) (outer : List Env) (s : Shared) (H : Hp) (f c : Addr) (pm ctv : Value) (p : Arguments) (b : Expr) (sc : Scope) (us : List Value) (vs : List V) (Q : VK), Room k A → A.guards = some [] → Env0 P w K mg base A outer s H → LamTx K n p b sc →
    s.heap.get? f = some (PySem.W.kla_obj "<lambda>" (lq n) p b sc [] pm c ctv) → s.heap.CodeRec (.ref c) (lq n) → Vals vs us → up K sp vs H Q → codeAny (model P w) A (.call (.ref f) ⟨us, []⟩) (CR CX0 outer P w H s Q E0) s
section
variable {P : Program} {w : World} {K : PySem.W.Frag} {mg : Str → Option Value} {base : Heap} {j k m : Nat} {fa : Addr} {fd : FuncData} {n : Str} {ps : List Str} {sp : Sp3}
theorem LamG.mono (F : LamG P w K mg base j n m sp) (h : j ≤ k) : LamG P w K mg base k n m sp :=
  ⟨F.len, fun A outer s H f c pm ctv p b sc us vs Q hr => F.run A outer s H f c pm ctv p b sc us vs Q (hr.mono h)⟩
/-- the text of n's lambda is the one of its def -/
theorem lamTx_one {st : Stmt} {p p' : Arguments} {b b' : Expr} {sc sc' : Scope} (F : Fun K n n st fa fd) (a : PySem.W.nsIn K mainGlobals n = some (some (.ref fa))) (hl : lamIn (defBody st) = some (p, b, sc)) (t : LamTx K n p' b' sc') : p' = p ∧ b' = b ∧ sc' = sc := by
  obtain ⟨oc, od, kV, doc, pm, an, cdv, ct, osl, rfl, lk, hcd⟩ := F.ex
  obtain ⟨fa', oc', od', fd', sl', ss', e1, e2, e3, e4⟩ := t
  rw [a] at e1
  cases e1
  rw [lk] at e2
  cases e2
  cases e3
  rw [hl] at e4
  cases e4
  exact ⟨rfl, rfl, rfl⟩
theorem lam_g {st : Stmt} {p : Arguments} {b : Expr} {sc : Scope} {N : List Str} (F : Fun K n n st fa fd) (a : PySem.W.nsIn K mainGlobals n = some (some (.ref fa))) (hl : lamIn (defBody st) = some (p, b, sc)) (S : FnScope N ps sc) (len : ∀ ds h Q, sp ds h Q → ds.length = ps.length) {g : GE}
    (hbind : ∀ (q : Str) (pm cv ctv : Value) (us : List Value), us.length = ps.length → bindArgs (PySem.W.kla_fn "<lambda>" q p b sc [] pm cv ctv) ⟨us, []⟩ = pure (ps.zip us))
    (hb : ∀ (cdv : Value) (A : Around) (outer : List Env) (s : Shared) (H : Hp) (f : Addr), Room k (A.deeper (envOfC (lq n) sc s.heap.objs.size f cdv)) → A.guards = some [] → E3 (cxOf CX0 P w K mg base N (lq n) sc f cdv A outer s H E0).nox b g)
    (hg : ∀ ds h Q, sp ds h Q → g (startD N ds) h Q) : LamG P w K mg base (k + 1) n ps.length sp := by
  refine ⟨len, fun A outer s H f c pm ctv p' b' sc' us vs Q hr hgd e0 tx hf hc hv ⟨ds, v, Q3, eH, rl, ra, hsp, out⟩ => ?_⟩
  obtain ⟨rfl, rfl, rfl⟩ := lamTx_one F a hl tx
  subst eH
  have hlv : vs.length = ps.length := by rw [lenD ra]; exact len _ _ _ hsp
  have hlu : us.length = ps.length := by rw [← hv.length]; exact hlv
  have kinds : ∀ y ∈ ps.zip us, sc'.names.lookup y.1 = some .local ∨ (sc'.names.lookup y.1 = some .cell ∧ ((cellsFrom (s.heap.objs.size + 1) sc'.names []).lookup y.1).isSome = true) := by
    rintro ⟨x, val⟩ hy
    rcases S.par x (List.of_mem_zip hy).1 with z | z
    · exact .inl z
    · exact .inr ⟨z, PySem.W.cellsFrom_some _ _ _ (.inl z)⟩
  refine PySem.W.kla_callFunE hr.depth hf rfl S.co S.gen rfl hc ?_
  rw [hbind _ _ _ _ us hlu]
  refine wpAny_pure (wpAny_newFunctionEnv_cells S.kind kinds fun env he s1 xc => ?_)
  subst he
  refine ⟨(e0.mod.nolimit.keeps fun b o e => (e0.bs b o e).1).keeps xc.toInCall.keep, ?_⟩
  have I := inv_start (CX := CX0) (E := E0) (qual := lq n) (f := f) (cd := .ref c) S hr.hd e0 hlv hv xc
  have body := (PE.nox (hb (.ref c) A outer s v.H f (hr.deeper _) hgd)).run [] s1 (L2.start N vs) v.H Q I ⟨startD N ds, v, Q3, rfl, good_start N rl ra, hg _ _ _ hsp, out⟩
  refine PySem.W.kla_codeExpr (wpAny_mono body (fun u s' hs => ?_) fun e s' hs => hs)
  obtain ⟨r, H', J, rr, q⟩ := hs
  exact ⟨r, H', J.os, J.bare, J.base, J.hok, rr, q⟩
end
/-- the lambdas that may come here -/
def LamsAt (P : Program) (w : World) (K : PySem.W.Frag) (mg : Str → Option Value) (base : Heap) (k : Nat) (L : List (Str × Sp3)) : Prop := ∀ n sp, L.lookup n = some sp → ∃ m, LamG P w K mg base k n m sp
theorem lamsAt_nil {P : Program} {w : World} {K : PySem.W.Frag} {mg : Str → Option Value} {base : Heap} {k : Nat} : LamsAt P w K mg base k [] := fun n sp h => by cases h
theorem lamsAt_cons {P : Program} {w : World} {K : PySem.W.Frag} {mg : Str → Option Value} {base : Heap} {k m : Nat} {n : Str} {sp : Sp3} {L : List (Str × Sp3)} (F : LamG P w K mg base k n m sp) (r : LamsAt P w K mg base k L) : LamsAt P w K mg base k ((n, sp) :: L) := fun n' sp' h => by
  rw [List.lookup_cons] at h
  split at h
  · rename_i e
    have e := beq_iff_eq.mp e
    cases h
    rw [e]
    exact ⟨m, F⟩
  · exact r n' sp' h
@[simp] def gCallLam (i : Nat) (L : List (Str × Sp3)) (gs : GA) : GE := fun ρ h Q => ∃ f n, slot ρ i = some (.ref f) ∧ h f = some (.lam n) ∧ gs ρ h fun ds h1 => ∃ n sp, h1 f = some (.lam n) ∧ L.lookup n = some sp ∧ sp ds h1 Q
theorem Rel.lam {P : Program} {v : World} {K : PySem.W.Frag} {w : Wd} {h : Heap} (r : Rel K w) (ok : HOk P v w.H h) {f : Addr} {n : Str} (e : w.h f = some (.lam n)) :
    ∃ p b s c pm ctv, LamTx K n p b s ∧ h.get? f = some (PySem.W.kla_obj "<lambda>" (lq n) p b s [] pm c ctv) ∧ h.CodeRec (.ref c) (lq n) := by
  obtain ⟨p, b, s, c, t, h1, h2, h3⟩ := r.obj f _ e
  have hf : w.H f = some (LamO f (lq n) p b s c) := by
    rcases r.sub f _ h1 with z | ⟨z, _⟩
    · exact z
    · unfold Still at z; rw [e] at z; exact z.elim
  obtain ⟨⟨pm, ctv, q⟩, _, _⟩ := ok f _ hf
  refine ⟨p, b, s, c, pm, ctv, t, q, ?_⟩
  rcases r.sub c _ h3 with z | ⟨_, _, o, z⟩
  · obtain ⟨⟨oc, ws, t, hoc, hdc, hvc⟩, _, _⟩ := ok c _ z
    exact ⟨c, oc, ws, t, rfl, hoc, hdc, hvc⟩
  · obtain ⟨_, ⟨oc, ws, t, hoc, hdc, hvc⟩, _, _⟩ := ok c _ z
    exact ⟨c, oc, ws, t, rfl, hoc, hdc, hvc⟩
section
variable {X : Cx} {i k : Nat} {x : Str} {L : List (Str × Sp3)} {e : Expr} {es : List Expr} {gs : GA} {p pos : Pos}
theorem e_callLam (i : Nat) (HL : LamsAt X.prog X.w X.K X.mg X.base k L) (hr : Room k X.A) (hgd : X.A.guards = some []) (ha : A3 X (e :: es) gs) (hN : X.N[i]? = some x := by rfl) (hv : Vis X.env.scope x := by first | exact Or.inl rfl | exact Or.inr (Or.inl rfl) | exact Or.inr (Or.inr rfl)) (hd : (x == ("__debug__" : Str)) = false := by decide) (hcd : (x == ("__classdict__" : Str)) = false := by decide)
    (he : starEach (e :: es) X.env = (false, eval e X.env) :: starEach es X.env := by rfl) (hpl : (backTo pos (starEach es X.env)).any (·.1) = false := by rfl) : E3 X (.Call (.Name x p) (e :: es) [] pos) (gCallLam i L gs) := by
  refine ⟨fun pins s σ H Q I ⟨ρ, w, Q3, eH, gd, ⟨f, n0, hs, hm, q⟩, out⟩ => ?_⟩
  subst eH
  obtain ⟨v, hσ, rv⟩ := gd.at_ i _ (slot_get hs)
  cases rv
  refine wpAny_Call_Name_kw (thn ((pe_var (pos := p) (i := i) hN hv hd hcd).run pins s σ w.H (fun v H1 => v = .ref f ∧ H1 = w.H) I ⟨.ref f, hσ, rfl, rfl⟩) fun u s1 ⟨v, H1, I1, r1, q1⟩ => ?_)
  obtain ⟨ev, eH⟩ := q1
  subst ev eH
  obtain rfl : u = Value.ref f := r1
  have fnAt : ∀ {w1 : Wd} {s1 : Shared} {n : Str}, Rel X.K w1 → L2.Inv X pins σ w1.H s1 → w1.h f = some (.lam n) → PySem.W.FnAt f s1.heap := fun {w1 s1 n} r I e => by
    obtain ⟨p, b, s, c, pm, ctv, _, z, _⟩ := r.lam I.hok e
    exact ⟨_, _, _, _, z⟩
  have args := ha.run pos pins s1 σ w.H (fun vs H1 => ∃ ds w1 n sp, w1.H = H1 ∧ Rel X.K w1 ∧ RpAll X.K w1 ds vs ∧ Ext w w1 ∧ w1.h f = some (.lam n) ∧ L.lookup n = some sp ∧ sp ds w1.h Q3) I1
    ⟨ρ, w, _, rfl, gd, q, fun ds w1 vs ⟨n, sp, z1, z2, z3⟩ r1 e1 p1 => ⟨ds, w1, n, sp, rfl, r1, p1, e1, z1, z2, z3⟩⟩
  refine PySem.W.callWith_F (fnAt gd.rel I1 hm) (thn args fun us s2 ⟨vs, H2, I2, rr, ds, w1, n, sp, eH, r1, p1, e1, hl, hL, q1⟩ => ?_) he hpl
  subst eH
  refine ⟨fnAt r1 I2 hl, ?_⟩
  obtain ⟨m, F⟩ := HL n sp hL
  obtain ⟨pp, b, sc, c, pm, ctv, tx, z, h2⟩ := r1.lam I2.hok hl
  refine wpAny_call (codeAny_mono (F.run X.A X.stack s2 w1.H f c pm ctv pp b sc us vs Q hr hgd I2.env0 tx z h2 rr ⟨ds, w1, Q3, rfl, r1, p1, q1, out.ext e1⟩) fun res s' hq => ?_)
  cases res with
  | error e => exact hq.elim
  | ok fl =>
    cases fl with
    | ret u => exact I2.after hq
    | next => exact hq.elim
    | brk => exact hq.elim
    | cont => exact hq.elim
end

/-! ### the end: the law's def, called with the script; the tables of the defs that hand over lambdas are empty then -/
section
open PySem.W
theorem ints_rp (K : Frag) (wd : Wd) : ∀ ns : List Int, RpAll K wd (ns.map Dv.int) (ns.map V.int)
  | [] => .nil
  | i :: r => .cons (.int i) (ints_rp K wd r)
/-- a known script, or one of the module's own lists -/
theorem end_core {P : Program} {w : World} {K : Frag} {mg mb : Str → Option Value} {k : Nat} {fa a : Addr} {fd : FuncData} {x : Str} {sp : Sp3} {s1 : Shared} {vs : List Value} {ns : List Int} {ob : Obj} (b : Bool) (cs : List (Addr × Addr))
    (hob : ob = { cls := .type "list", data := .seq vs.toArray }) (KX : K.In s1.heap) (hns : s1.heap.Ns mainGlobals mg) (hbt : s1.heap.Ns builtinsNs mb) (hbb : ∀ x : Str, x ≠ "__name__" → mb x = bootBuiltins x) (hlim : s1.heap.NoLimit) (hgn : s1.gens = #[])
    (hT : ∀ p ∈ cs, s1.heap.get? p.2 = some { cls := .none, data := .fields #[] }) (nT : ∀ p ∈ cs, K.lookup p.2 = none) (C : ∀ p ∈ cs, CodeHd s1.heap p.1 p.2) (hcs : ∀ t ∈ lamTabs K, (t.2.2.1, t.2.2.2) ∈ cs)
    (hbm : ∃ (bm : Addr) (ob : Obj), mg "__builtins__" = some (.ref bm) ∧ bm ≠ builtinsNs ∧ s1.heap.get? bm = some ob ∧ ob.cls = .type "module" ∧ ob.dict = some builtinsNs ∧ ob.data = .plain)
    (ha : s1.heap.get? a = some ob) (hi : IntsAre vs ns) (hl : ns.length ≤ sizeLine) (hr : Room k callerA) (hK : b = true → K.lookup a = none) (hK' : b = false → K.lookup a = some ob)
    (F : ∀ base : Heap, K.In base → base.Ns mainGlobals mg → (∀ t ∈ lamTabs K, LamX.TabB base mg t.2.2.1 t.2.2.2) → FnG P w K mg base k fa fd [x] sp) (hbind : ∀ (s : Shared) (u : Value), BindsTo s fd ⟨[u], []⟩ [(x, u)])
    (hsp : sp [.lst (ns.map Dv.int)] (fun _ => none) (fun v _ => v = .bl true)) :
    codeAny (model P w) callerA (.call (.ref fa) ⟨[.ref a], []⟩) (fun r s' => r = .ok (.ret (.bool true)) ∧ OldK s1.heap s'.heap ∧ s'.os = s1.os ∧ AllBare s'.gens) s1 := by
  have rv := vals_ints hi
  let G : Hp := fun p => if p = a ∧ b = true then some (.lst (ns.map V.int)) else none
  let H : Hp := fun p => if p = a ∧ b = true then some (.frz ob (.lst (ns.map V.int))) else if p ∈ cs.map (·.2) then some (.tbl #[]) else none
  have isT : ∀ p : Addr, p ∈ cs.map (·.2) → s1.heap.get? p = some { cls := .none, data := .fields #[] } := fun p hp => by
    obtain ⟨q, hq, e⟩ := List.mem_map.mp hp
    rw [← e]
    exact hT q hq
  have aT : a ∉ cs.map (·.2) := fun z => by
    have q := isT a z
    rw [ha, hob] at q
    have z' : Data.seq vs.toArray _ = Data.fields #[] := congrArg Obj.data (Option.some.inj q)
    cases z'
  have memT : ∀ p ∈ cs, p.2 ∈ cs.map (·.2) := fun p hp => List.mem_map.mpr ⟨p, hp, rfl⟩
  have Hn : ∀ p u, H p = some u → (p = a ∧ b = true ∧ u = .frz ob (.lst (ns.map V.int))) ∨ (p ∈ cs.map (·.2) ∧ u = .tbl #[]) := fun p u h => by
    have h : (if p = a ∧ b = true then some (HO.frz ob (.lst (ns.map V.int))) else if p ∈ cs.map (·.2) then some (HO.tbl #[]) else none) = some u := h
    by_cases e : p = a ∧ b = true
    · rw [if_pos e] at h
      cases h
      exact .inl ⟨e.1, e.2, rfl⟩
    · rw [if_neg e] at h
      by_cases e2 : p ∈ cs.map (·.2)
      · rw [if_pos e2] at h
        cases h
        exact .inr ⟨e2, rfl⟩
      · rw [if_neg e2] at h
        cases h
  have hH : ∀ p ∈ cs.map (·.2), H p = some (.tbl #[]) := fun p hp => by
    have n : ¬ (p = a ∧ b = true) := fun z => aT (by rw [← z.1]; exact hp)
    show (if p = a ∧ b = true then some (HO.frz ob (.lst (ns.map V.int))) else if p ∈ cs.map (·.2) then some (HO.tbl #[]) else none) = _
    rw [if_neg n, if_pos hp]
  have Gn : ∀ p u, G p = some u → p = a ∧ b = true ∧ u = .lst (ns.map V.int) := fun p u h => by
    have h : (if p = a ∧ b = true then some (HO.lst (ns.map V.int)) else none) = some u := h
    by_cases e : p = a ∧ b = true
    · rw [if_pos e] at h
      cases h
      exact ⟨e.1, e.2, rfl⟩
    · rw [if_neg e] at h
      cases h
  have kept : ∀ {p : Addr} {o : Obj}, s1.heap.get? p = some o → H p = none → (hidT s1.heap H).get? p = some o := fun e n => hidT_get e n
  have noD : ∀ {p : Addr} {o : Obj}, s1.heap.get? p = some o → (∀ vs n, o.data ≠ .seq vs n) → o.data ≠ .fields #[] → H p = none := fun {p o} e h1 h2 => by
    cases q : H p with
    | none => rfl
    | some u =>
      rcases Hn p u q with ⟨e1, _, _⟩ | ⟨e1, _⟩
      · rw [e1, ha, hob] at e
        cases e
        exact (h1 _ _ rfl).elim
      · rw [isT p e1] at e
        cases e
        exact (h2 rfl).elim
  have seq : ∀ {p : Addr} {o : Obj} {es : Array DictEntry} {ep : Nat}, s1.heap.get? p = some o → o.data = .dict es ep → H p = none := fun {p o es ep} e d => by
    refine noD e (fun vs n z => ?_) fun z => ?_
    · rw [d] at z; cases z
    · rw [d] at z; cases z
  have nsK : ∀ {p : Addr} {m : Str → Option Value}, s1.heap.Ns p m → (hidT s1.heap H).Ns p m := fun ⟨o, es, ep, e, d, r⟩ => ⟨o, es, ep, kept e (seq e d), d, r⟩
  have KB : K.In (hidT s1.heap H) := fun p o e => kept (KX p o e) (by
    cases q : H p with
    | none => rfl
    | some u =>
      rcases Hn p u q with ⟨e1, e2, _⟩ | ⟨e1, _⟩
      · subst e1
        rw [hK e2] at e
        cases e
      · obtain ⟨p', hp', ep⟩ := List.mem_map.mp e1
        rw [← ep, nT p' hp'] at e
        cases e)
  obtain ⟨mc, n1, n2⟩ := hlim
  have M : Mod K mg (hidT s1.heap H) := ⟨KB, nsK hns, ⟨mb, nsK hbt, hbb⟩, ⟨mc, nsK n1, n2⟩⟩
  have TB : ∀ t ∈ lamTabs K, LamX.TabB (hidT s1.heap H) mg t.2.2.1 t.2.2.2 := fun t ht => by
    have hp := hcs t ht
    have hTp := hT _ hp
    refine ⟨?_, ?_, fun z => ?_⟩
    · obtain ⟨o, us, file, tf, flags, tg, inF, text, tt, e1, r1, r2, r3, r4, r5, r6, r7, r8, hne⟩ := C _ hp
      refine ⟨o, us, file, tf, flags, tg, inF, text, tt, kept e1 (noD e1 (fun vs n z => ?_) fun z => ?_), r1, r2, r3, r4, r5, r6, r7, r8, hne⟩
      · rw [r2] at z
        cases z
      · rw [r2] at z
        cases z
        simp at r3
    · obtain ⟨bm, ob', b1, b2, b3, b4, b5, b6⟩ := hbm
      have nG : bm ≠ mainGlobals := fun q => by
        obtain ⟨o, es, ep, e, hd, _⟩ := hns
        rw [q, e] at b3
        cases b3
        rw [hd] at b6
        cases b6
      have nP : bm ≠ t.2.2.2 := fun q => by
        rw [q, hTp] at b3
        cases b3
        cases b6
      refine ⟨bm, ob', b1, b2, nG, nP, kept b3 (noD b3 (fun vs n z => ?_) fun z => ?_), b4, b5, b6⟩
      · rw [b6] at z
        cases z
      · rw [b6] at z
        cases z
    · obtain ⟨o, es, ep, e, hd, _⟩ := hns
      rw [z, hTp] at e
      cases e
      cases hd
  have lz : (ns.map V.int).length ≤ sizeLine := by rw [List.length_map]; exact hl
  have hok : HOk P w H s1.heap := fun p u q => by
    rcases Hn p u q with ⟨e1, _, e3⟩ | ⟨e1, e3⟩
    · subst e1 e3
      exact ⟨ha, lz, vs, _, rv, by rw [ha, hob]⟩
    · subst e3
      exact isT p e1
  have e0 : Env0 P w K mg (hidT s1.heap H) callerA [] s1 H := ⟨rfl, M, fun p o e => of_hidT e, Nat.le_of_eq (hidT_size _ _), trivial, fun p hp => (by cases hp), hok, .of_eq hgn⟩
  have rel : Rel K ⟨fun _ => none, G, H⟩ := ⟨fun p u h => by
    obtain ⟨e1, e2, e3⟩ := Gn p u h
    subst e1 e3
    exact .inr ⟨still_none rfl, (fun _ z => by cases z), ob, if_pos ⟨rfl, e2⟩⟩, (fun _ _ h => by cases h), fun P ps z => by
      rcases Hn P _ z with ⟨_, _, e3⟩ | ⟨e1, e3⟩
      · cases e3
      · cases e3
        refine ⟨rfl, ?_, True.intro, fun pos cv hc => ?_⟩
        · show G P = none
          cases g : G P with
          | none => rfl
          | some u =>
            obtain ⟨g1, _, _⟩ := Gn P u g
            exact absurd (by rw [← g1]; exact e1) aT
        · have z : codeAmong pos [] = some cv := hc
          simp [codeAmong] at z, fun t ht => ⟨#[], hH _ (memT _ (hcs t ht))⟩⟩
  have rp : Rp K ⟨fun _ => none, G, H⟩ (.lst (ns.map Dv.int)) (.ref a) := by
    refine .lst (xs := ns.map V.int) ?_ (ints_rp K _ ns)
    cases b with
    | true => exact .inl ⟨rfl, if_pos ⟨rfl, rfl⟩⟩
    | false => exact .inr (.inr ⟨ob, vs.toArray, _, hK' rfl, by rw [hob], by rw [hob], by rw [hob], by rw [List.size_toArray, ← rv.length]; exact lz, by simpa using rv⟩)
  refine codeAny_mono ((F _ KB (nsK hns) TB).run callerA [] s1 H ⟨[.ref a], []⟩ [.ref a] [.ref a] (fun v _ => v = .bl true) hr rfl e0 (hbind s1 (.ref a)) (.cons rfl .nil)
    ⟨[.lst (ns.map Dv.int)], ⟨fun _ => none, G, H⟩, fun v _ => v = .bl true, rfl, rel, .cons rp .nil, hsp, fun d w' v q _ _ p => by
      subst q
      cases p
      rfl⟩) fun r s' h => ?_
  cases r with
  | error e => exact h.elim
  | ok fl =>
    cases fl with
    | next => exact h.elim
    | brk => exact h.elim
    | cont => exact h.elim
    | ret u =>
      obtain ⟨v, H', os, bare, un, hok', r', q⟩ := h
      subst q
      obtain rfl : u = Value.bool true := r'
      have key : ∀ p o, p ∉ cs.map (·.2) → s1.heap.get? p = some o → s'.heap.get? p = some o := fun p o nb e => by
        cases q : H p with
        | none => exact un.keep p o e q (fun z => by cases z) (fun z => by cases z)
        | some u =>
          rcases Hn p u q with ⟨_, _, e3⟩ | ⟨e1, _⟩
          · subst e3
            obtain ⟨z1, _⟩ := hok p _ q
            obtain ⟨z2, _⟩ := hok' p _ (un.frzs p ob _ q)
            rw [e] at z1
            cases z1
            exact z2
          · exact absurd e1 nb
      have grown : ∀ p ∈ cs, ∃ more : Array Value, s'.heap.get? p.2 = some { cls := .none, data := .fields more } := fun p hp => by
        obtain ⟨more, z⟩ := un.tbls p.2 #[] (hH _ (memT p hp))
        exact ⟨_, hok' p.2 _ z⟩
      refine ⟨rfl, ⟨fun p o e => ?_, fun p o e => ?_⟩, os, bare⟩
      · by_cases hb : p ∈ cs.map (·.2)
        · obtain ⟨q, hq, ep⟩ := List.mem_map.mp hb
          obtain ⟨more, hm⟩ := grown q hq
          rw [← ep] at e ⊢
          rw [hT q hq] at e
          cases e
          exact .inr (.inl ⟨((C q hq).tab (hT q hq)).isCodeTable, rfl, #[], more, rfl, by rw [Array.empty_append]; exact hm⟩)
        · exact .inl (key p o hb e)
      · by_cases hb : p ∈ cs.map (·.2)
        · obtain ⟨q, hq, ep⟩ := List.mem_map.mp hb
          obtain ⟨more, hm⟩ := grown q hq
          rw [← ep]
          exact ⟨_, hm⟩
        · exact ⟨o, key p o hb e⟩
/-- the defs that hand over lambdas: they stand in the module under their names, their tables are not told by K -/
def lamsB (K : Frag) (q : Program) : Bool := (lamTabs K).all fun t => ((recsOf q).any fun d => d.name == t.1) && (match nsIn K mainGlobals t.1 with | some (some (.ref a)) => a == t.2.1 | _ => false) && (K.lookup t.2.2.2).isNone &&
  (match lamTab1 K t.2.1 with | some (c, P) => c == t.2.2.1 && P == t.2.2.2 | none => false)
theorem lamTab1_at {K : Frag} {fa c P : Addr} (h : lamTab1 K fa = some (c, P)) : ∃ oc od fd sl e dd vs sl', K.lookup fa = some ⟨oc, od, .func fd, sl⟩ ∧ fd.code = .ref c ∧ K.lookup c = some ⟨e, dd, .fields vs, sl'⟩ ∧ vs[11]? = some (.ref P) := by
  unfold lamTab1 at h
  repeat' (split at h)
  all_goals first | cases h | skip
  rename_i h1 _ _ _ _ _ _ h2 _ _ _ _ _ h3 _ _ h4
  exact ⟨_, _, _, _, _, _, _, _, h1, by assumption, by assumption, by assumption⟩
theorem walk_g {l : OpenLaw} {n k : Nat} {q : Program} {loose : List Str} {XP : (Str → Option Value) → Heap → Prop} {YP : World → Heap → Prop} {d : DefRec} {K : Params → Frag} {sp : Sp3} {x : Str}
    (hn : l.most = some n) (hn2 : n ≤ sizeLine) (hdf : d.params.defaults = []) (hr : Room k callerA) (hY : ∀ (w : World) (h : Heap), YP w h → (K w.params).In h) (hL : ∀ w : World, lamsB (K w.params) q = true)
    (F : ∀ (w : World) (mg : Str → Option Value) (fa : Addr) (h : Heap), (K w.params).In h → h.Ns mainGlobals mg → mg d.name = some (.ref fa) →
      ∃ fd : FuncData, (∀ (s : Shared) (u : Value), BindsTo s fd ⟨[u], []⟩ [(x, u)]) ∧ ∀ base : Heap, (K w.params).In base → base.Ns mainGlobals mg → (∀ t ∈ lamTabs (K w.params), LamX.TabB base mg t.2.2.1 t.2.2.2) → FnG l.prog w (K w.params) mg base k fa fd [x] sp)
    (hsp : ∀ (ns : List Int), ns.length ≤ n → sp [.lst (ns.map Dv.int)] (fun _ => none) (fun v _ => v = .bl true)) :
    WalkO q loose XP YP l.row.toRowW d [] (fun f vs => PySem.call f vs) := by
  refine Att.attach_call hn hdf fun w s₀ s₁ mg mb fa o pm cd doc a vs ns G Y ho hd hcd hmg hobj hints hlen hg => ?_
  have KX := hY w _ Y
  obtain ⟨fd, hb, hF⟩ := F w mg fa _ KX G.T.g hmg
  have tabs : ∀ t ∈ lamTabs (K w.params), s₁.heap.get? t.2.2.2 = some { cls := .none, data := .fields #[] } ∧ (K w.params).lookup t.2.2.2 = none ∧ CodeHd s₁.heap t.2.2.1 t.2.2.2 := fun t ht => by
    have z := List.all_eq_true.mp (hL w) t ht
    simp only [Bool.and_eq_true] at z
    obtain ⟨⟨⟨z1, z2⟩, z3⟩, z4⟩ := z
    obtain ⟨dL, hm, hn1⟩ := List.any_eq_true.mp z1
    have hn2 : dL.name = t.1 := beq_iff_eq.mp hn1
    have hfa : mg t.1 = some (.ref t.2.1) := by
      split at z2
      · rename_i a' e
        have e' : a' = t.2.1 := beq_iff_eq.mp z2
        rw [e'] at e
        exact PySem.W.mg_of KX G.T.g e
      · cases z2
    have h1 : lamTab1 (K w.params) t.2.1 = some (t.2.2.1, t.2.2.2) := by
      split at z4
      · rename_i c P e
        simp only [Bool.and_eq_true, beq_iff_eq] at z4
        rw [e, z4.1, z4.2]
      · cases z4
    obtain ⟨oc, od, fd1, sl, e, dd, vs1, sl', k1, k3, k4, k5⟩ := lamTab1_at h1
    obtain ⟨a', o', fd', c', P', g1, g2, g3, g4, g5, g6⟩ := G.T.tab dL hm
    rw [hn2, hfa] at g1
    cases g1
    rw [KX _ _ k1] at g2
    cases g2
    cases g3
    rw [k3] at g4
    cases g4
    have CH := CodeHd.of g5 g6
    obtain ⟨⟨oc2, vc, e1, _, e3, e4⟩, hP⟩ := g6
    rw [KX _ _ k4] at e1
    cases e1
    cases e3
    rw [k5] at e4
    cases e4
    refine ⟨hP, ?_, CH⟩
    cases hk : (K w.params).lookup t.2.2.2 with
    | none => rfl
    | some ob => rw [hk] at z3; cases z3
  let cs : List (Addr × Addr) := (lamTabs (K w.params)).map fun t => (t.2.2.1, t.2.2.2)
  have of_cs : ∀ p ∈ cs, ∃ t ∈ lamTabs (K w.params), p = (t.2.2.1, t.2.2.2) := fun p hp => by
    obtain ⟨t, ht, e⟩ := List.mem_map.mp hp
    exact ⟨t, ht, e.symm⟩
  have hT : ∀ p ∈ cs, s₁.heap.get? p.2 = some { cls := .none, data := .fields #[] } := fun p hp => by
    obtain ⟨t, ht, rfl⟩ := of_cs p hp
    exact (tabs t ht).1
  have nT : ∀ p ∈ cs, (K w.params).lookup p.2 = none := fun p hp => by
    obtain ⟨t, ht, rfl⟩ := of_cs p hp
    exact (tabs t ht).2.1
  have C : ∀ p ∈ cs, CodeHd s₁.heap p.1 p.2 := fun p hp => by
    obtain ⟨t, ht, rfl⟩ := of_cs p hp
    exact (tabs t ht).2.2
  have hcs : ∀ t ∈ lamTabs (K w.params), (t.2.2.1, t.2.2.2) ∈ cs := fun t ht => List.mem_map.mpr ⟨t, ht, rfl⟩
  cases hk : (K w.params).lookup a with
  | none => exact end_core true cs rfl KX G.T.g G.T.b G.T.builtins G.T.nolimit hg hT nT C hcs G.T.bmain hobj hints (Nat.le_trans hlen hn2) hr (fun _ => hk) (fun z => by cases z) hF hb (hsp ns hlen)
  | some ob =>
    have e := KX a ob hk
    rw [hobj] at e
    cases e
    exact end_core false cs rfl KX G.T.g G.T.b G.T.builtins G.T.nolimit hg hT nT C hcs G.T.bmain hobj hints (Nat.le_trans hlen hn2) hr (fun z => by cases z) (fun _ => hk) hF hb (hsp ns hlen)
/-- what is known of the def n that hands over a lambda, from K -/
def lamDB (K : Frag) (n : Str) (fa : Addr) : Bool := match lamTab1 K fa with
  | some (c, P) => ((lamTabs K).any fun t => t.2.2.1 == c && t.2.2.2 == P) && (match lamQ K P with | some q => q == lq n | none => false)
  | none => false
theorem lamD_of {K : Frag} {mg : Str → Option Value} {base : Heap} {n : Str} {st : Stmt} {fa : Addr} {fd : FuncData} {p : Arguments} {b : Expr} {sc : Scope} (HB : ∀ t ∈ lamTabs K, LamX.TabB base mg t.2.2.1 t.2.2.2) (F : Fun K n n st fa fd) (a : nsIn K mainGlobals n = some (some (.ref fa)))
    (v : lamDB K n fa = true) (hl : lamIn (defBody st) = some (p, b, sc)) : LamD K mg base n fd p b sc := by
  obtain ⟨oc, od, kV, doc, pm, an, cdv, ct, osl, rfl, lk, hcd⟩ := F.ex
  refine ⟨⟨fa, oc, od, _, osl, _, a, lk, rfl, hl⟩, ?_⟩
  unfold lamDB at v
  split at v
  · rename_i c P e
    obtain ⟨oc', od', fd', sl', e', dd, vs, sl2, k1, k3, k4, k5⟩ := lamTab1_at e
    rw [lk] at k1
    cases k1
    simp only [Bool.and_eq_true] at v
    obtain ⟨v1, v2⟩ := v
    obtain ⟨t, ht, hv⟩ := List.any_eq_true.mp v1
    simp only [Bool.and_eq_true, beq_iff_eq] at hv
    obtain ⟨hc, hp⟩ := hv
    have TB := HB t ht
    rw [hc, hp] at TB
    refine ⟨c, P, k3, TB, ⟨t, ht, hp⟩, ?_⟩
    split at v2
    · rename_i q hq
      rw [hq, beq_iff_eq.mp v2]
    · cases v2
  · cases v
end
/-- a def by its body; its code is known by its object -/
theorem fn_gL {P : Program} {w : World} {K : PySem.W.Frag} {mg : Str → Option Value} {base : Heap} {k : Nat} {f : Addr} {fd : FuncData} {ps : List Str} {sp : Sp3} {x qual : Str} {st : Stmt} {N : List Str} (F : Fun K x qual st f fd) (S : FnScope N ps (defScope st)) (len : ∀ ds h Q, sp ds h Q → ds.length = ps.length) {g : GS}
    (hb : ∀ (cdv : Value) (A : Around) (outer : List Env) (s : Shared) (H : Hp), fd.code = cdv → Room k (A.deeper (envOfC qual (defScope st) s.heap.objs.size f cdv)) → A.guards = some [] →
      B3 (cxOf CX0 P w K mg base N qual (defScope st) f cdv A outer s H E0).nox (defBody st) g)
    (hg : ∀ ds h Q, sp ds h Q → g { nx := fun _ h' => Q .non h', rt := Q } (startD N ds) h) : FnG P w K mg base (k + 1) f fd ps sp := by
  obtain ⟨oc, od, kV, doc, pm, an, cdv, ct, osl, rfl, lk, hcd⟩ := F.ex
  refine ⟨len, fun A outer s H args us vs Q hr hgd e0 hbd hv ⟨ds, v, Q3, eH, rl, ra, hsp, out⟩ => ?_⟩
  subst eH
  have hl : vs.length = ps.length := by rw [lenD ra]; exact len _ _ _ hsp
  have KX : K.In s.heap := e0.mod.kin.keeps fun b o e => (e0.bs b o e).1
  have kinds : ∀ y ∈ ps.zip us, (defScope st).names.lookup y.1 = some .local ∨ ((defScope st).names.lookup y.1 = some .cell ∧ ((cellsFrom (s.heap.objs.size + 1) (defScope st).names []).lookup y.1).isSome = true) := by
    rintro ⟨n, val⟩ hy
    rcases S.par n (List.of_mem_zip hy).1 with z | z
    · exact .inl z
    · exact .inr ⟨z, PySem.W.cellsFrom_some _ _ _ (.inl z)⟩
  refine codeAny_call_function hr.depth (KX _ _ lk) rfl S.co S.gen rfl (PySem.W.codeRec_of KX hcd) (hbd _ _ _ _ (wpAny_newFunctionEnv_cells S.kind kinds fun env he s1 xc => ?_))
  subst he
  refine ⟨(e0.mod.nolimit.keeps fun b o e => (e0.bs b o e).1).keeps xc.toInCall.keep, codeAny_func ?_⟩
  have I := inv_start (CX := CX0) (E := E0) S hr.hd e0 hl hv xc
  have body := (PSs.nox (hb cdv A outer s v.H rfl (hr.deeper _) hgd)).run [] s1 (L2.start N vs) v.H { nx := fun _ H' => Q .non H', rt := Q } I
    ⟨startD N ds, v, { nx := fun _ h' => Q3 .non h', rt := Q3 }, rfl, good_start N rl ra, hg _ _ _ hsp, ⟨fun ρ w' σ q gd e => out.go gd.rel e .non q, out, fun _ _ _ q _ _ => q.elim, fun _ _ _ q _ _ => q.elim⟩⟩
  refine wpAny_mono body (fun fl s' hs => ?_) fun e s' hs => hs
  cases fl with
  | ret u =>
    obtain ⟨r, σ', H', J, rr, q⟩ := hs
    exact ⟨r, H', J.os, J.bare, J.base, J.hok, rr, q⟩
  | next =>
    obtain ⟨σ', H', J, q⟩ := hs
    exact ⟨V.non, H', J.os, J.bare, J.base, J.hok, rfl, q⟩
  | brk =>
    obtain ⟨_, _, _, q⟩ := hs
    exact q.elim
  | cont =>
    obtain ⟨_, _, _, q⟩ := hs
    exact q.elim
end G3

namespace G3
open PySem L2 RZ PyProof.Rows

/-! ### d.clear(), isinstance(d, dict) -/
section
variable {X : Cx} {o e : Expr} {go : GE} {apos cpos p pos : Pos}
@[simp] def gDClear (go : GE) : GE := fun ρ h Q => go ρ h fun d h1 => ∃ a kvs, d = .ref a ∧ h1 a = some (.dK kvs) ∧ Q .non (mput h1 a (.dK []))
theorem e_dclear (ho : E3 X o go) (hbase : attributeBase o "clear" X.env (eval o X.env) = eval o X.env := by rfl) (hline : (apos.endLine == cpos.line) = true := by rfl) : E3 X (.Call (.Attribute o "clear" apos) [] [] cpos) (gDClear go) := PEimp (pe_dclear ho hbase hline) fun σ H Q ⟨ρ, w, Q3, eH, gd, q, out⟩ => by
  subst eH
  refine ⟨ρ, w, _, rfl, gd, q, fun d w1 v1 ⟨a, kvs, ed, hh, q1⟩ r1 e1 p1 => ?_⟩
  subst ed
  cases p1
  obtain ⟨ws, hG, hH, ra⟩ := r1.mdK hh
  obtain ⟨r2, e2⟩ := r1.put (p := a) (u := .dK []) (m := .dK []) (.inr ⟨_, hh, id⟩) fun v ex g => ⟨[], g, .nil⟩
  exact ⟨.inr (.inr (.inl ⟨rfl, .inl ⟨_, hH⟩⟩)), a, ws, rfl, rfl, hH, out.go r2 (e1.trans e2) .non q1⟩
/-- isinstance(x, dict): of a dict, or of data -/
def cIsiD : DC := fun ds h Q => ∃ d, ds = [d, .ty "dict"] ∧ ((∃ a kvs, d = .ref a ∧ h a = some (.dK kvs) ∧ Q (.bl true) h) ∨ (∃ t, tyOf h d = some t ∧ Q (.bl false) h))
theorem c_isiD : C3 X (.builtin "isinstance") cIsiD := by
  intro pins s σ H xs us Q I rx h
  obtain ⟨ds, w, Q3, eH, r, ra, ⟨d, rfl, hc⟩, out⟩ := h
  subst eH
  obtain ⟨x, y, rfl, rp, rq⟩ := ra.two
  cases rq
  rcases hc with ⟨a, kvs, rfl, hh, q⟩ | ⟨t, ht, q⟩
  · cases rp
    obtain ⟨ws, hG, hH, _⟩ := r.mdK hh
    exact call_isi pins s σ w.H _ us Q I rx ⟨.ref a, .ty "dict", .type "dict", .type "dict", true, rfl, .ty "dict", .base (.dK hH), kit_ty (by decide +kernel), out _ w _ q r (Ext.refl w) (.bl _)⟩
  · obtain ⟨ty, hm⟩ := tyX_of r rp ht
    have all : ∀ t ∈ ["NoneType", "bool", "int", "str", "tuple", "list"], kitB t "dict" = some false := by decide +kernel
    exact call_isi pins s σ w.H _ us Q I rx ⟨x, .ty "dict", _, _, _, rfl, .ty "dict", ty, kit_ty (all t hm), out _ w _ q r (Ext.refl w) (.bl _)⟩
end

/-! ### sorted(d.items()) of data -/
abbrev TupR := Addr × List V × List Dv
/-- new tuples are told -/
theorem take_tups {X : Cx} {pins : List (Addr × Obj)} {σ : L2.St} {s : Shared} {h' : Heap} {tk : Nat} {H0 : Hp} (I0 : L2.Inv X pins σ H0 s) : ∀ (L : List TupR) (w : Wd), L2.Inv X pins σ w.H { s with heap := h', toks := tk } → Rel X.K w → (L.map (·.1)).Nodup →
    (∀ z ∈ L, s.heap.objs.size ≤ z.1 ∧ w.H z.1 = none ∧ RpAll X.K w z.2.2 z.2.1 ∧ ∀ H2, ObjOk X.prog X.w H2 h' z.1 (.tup z.2.1)) →
    ∃ w2, L2.Inv X pins σ w2.H { s with heap := h', toks := tk } ∧ Rel X.K w2 ∧ Ext w w2 ∧ w2.h = w.h ∧ (∀ b, b ∉ L.map (·.1) → w2.H b = w.H b) ∧ ∀ z ∈ L, Rp X.K w2 (.tup z.2.2) (.ref z.1)
  | [], w, I, r, _, _ => ⟨w, I, r, Ext.refl w, rfl, fun _ _ => rfl, fun _ h => by cases h⟩
  | y :: L, w, I, r, nd, h => by
    obtain ⟨hb, hnone, ra, ok⟩ := h y List.mem_cons_self
    have nd' := List.nodup_cons.mp (show (y.1 :: L.map (·.1)).Nodup from nd)
    have I2 : L2.Inv X pins σ (upd w.H y.1 (.tup y.2.1)) { s with heap := h', toks := tk } := I.take (h' := h') (t' := tk) (fun b ob _ e => e) (I0.fpOk hb hnone) (ok _)
    obtain ⟨r1, e1, p1⟩ := new_tup (p := y.1) r ra hnone
    obtain ⟨w2, I3, r2, e2, eh, off, all⟩ := take_tups I0 L ⟨w.h, upd w.G y.1 (.tup y.2.1), upd w.H y.1 (.tup y.2.1)⟩ I2 r1 nd'.2 fun z hz => by
      obtain ⟨c1, c2, c3, c4⟩ := h z (List.mem_cons_of_mem _ hz)
      refine ⟨c1, ?_, c3.ext e1, c4⟩
      show upd w.H y.1 _ z.1 = none
      rw [upd_ne (fun q => nd'.1 (by rw [← q]; exact List.mem_map.mpr ⟨z, hz, rfl⟩))]
      exact c2
    refine ⟨w2, I3, r2, e1.trans e2, eh, fun b hb => ?_, fun z hz => ?_⟩
    · have hb' : ¬ (b = y.1 ∨ b ∈ L.map (·.1)) := fun z => (show b ∉ y.1 :: L.map (·.1) from hb) (List.mem_cons.mpr z)
      rw [off b (fun z => hb' (.inr z))]
      exact upd_ne (fun z => hb' (.inl z))
    · rcases List.mem_cons.mp hz with rfl | hz
      · exact p1.ext e2
      · exact all z hz
def zip3 : List Addr → List (Key × V) → List (Key × Dv) → List TupR
  | a :: as, x :: xs, k :: ks => (a, [kV x.1, x.2], [keyD k.1, k.2]) :: zip3 as xs ks
  | _, _, _ => []
theorem zip3_get : ∀ {as : List Addr} {xs : List (Key × V)} {ks : List (Key × Dv)} {z : TupR}, z ∈ zip3 as xs ks → ∃ (j : Nat) (a : Addr) (x : Key × V) (k : Key × Dv), as[j]? = some a ∧ xs[j]? = some x ∧ ks[j]? = some k ∧ z = (a, [kV x.1, x.2], [keyD k.1, k.2])
  | a :: as, x :: xs, k :: ks, z, h => by
    rcases List.mem_cons.mp (show z ∈ (a, [kV x.1, x.2], [keyD k.1, k.2]) :: zip3 as xs ks from h) with rfl | h
    · exact ⟨0, a, x, k, rfl, rfl, rfl, rfl⟩
    · obtain ⟨j, a', x', k', e1, e2, e3, e4⟩ := zip3_get h
      exact ⟨j + 1, a', x', k', e1, e2, e3, e4⟩
  | [], _, _, _, h => by cases h
  | _ :: _, [], _, _, h => by cases h
  | _ :: _, _ :: _, [], _, h => by cases h
theorem zip3_fst : ∀ {as : List Addr} {xs : List (Key × V)} {ks : List (Key × Dv)}, as.length = xs.length → xs.length = ks.length → (zip3 as xs ks).map (·.1) = as ∧ (zip3 as xs ks).map (fun z => Dv.tup z.2.2) = ks.map fun p => Dv.tup [keyD p.1, p.2]
  | [], [], [], _, _ => ⟨rfl, rfl⟩
  | [], _ :: _, _, h, _ => by simp at h
  | _ :: _, [], _, h, _ => by simp at h
  | [], [], _ :: _, _, h => by simp at h
  | _ :: _, _ :: _, [], _, h => by simp at h
  | a :: as, x :: xs, k :: ks, h1, h2 => by
    obtain ⟨e1, e2⟩ := zip3_fst (as := as) (xs := xs) (ks := ks) (by simpa using h1) (by simpa using h2)
    exact ⟨by show a :: _ = _; rw [e1], by show Dv.tup [keyD k.1, k.2] :: _ = _; rw [e2]; rfl⟩
theorem each_tups : ∀ L : List TupR, PySem.W.EachIs (fun u (b : V × Dv) => RelV b.1 u) (L.map fun z => Value.ref z.1) (L.map fun z => (V.ref z.1, Dv.tup z.2.2))
  | [] => .nil
  | z :: L => .cons rfl (each_tups L)
section
open PySem.W
variable {prog : Program} {w : World} {A : Around} {s : Shared} {E : Value → Shared → Prop} {vs : List Value} {α : Type} {bs : List α} {R : Value → α → Prop} {enc : α → PyData}
/-- xs.sort() of what reads as data while it is sorted -/
theorem list_sort_read {a : Addr} {n : Nat} {Q : Value → Shared → Prop} (ho : s.heap.get? a = some (seqObj "list" vs.toArray n)) (e : EachIs R vs bs) (er' : EachIs (fun v b => ∃ as, Reads (sortingHeap s.heap a vs) v (enc b) as) vs bs) (hal : AllAlike (bs.map enc)) (hk : Sortable (bs.map enc)) (hL : bs.length ≤ sizeLine)
    (hu : ∀ b, b ∈ bs → A.units + 1 + (enc b).depth < cLine) (h : ∀ out, out.length = bs.length → EachIs R out (bs.mergeSort (dataLe false enc)) → Q .none { s with heap := sortedHeap s.heap a vs (List.toArray out) }) :
    wpAny (model prog w) A (call (.builtin "list.sort") [.ref a]) Q E s := by
  refine wpAny_call_entry slot_list_sort ⟨_, ho, rfl⟩ entry_list_sort (list_sort_vals (κ := dataKind (sortingHeap s.heap a vs) (bs.map enc)) ho (SortsAt.data (s := { s with heap := sortingHeap s.heap a vs }) (each_map (R := fun v d => ∃ as, Reads (sortingHeap s.heap a vs) v d as) enc er') hal hk (bound_map hu)) (by rw [e.length]; exact hL) ⟨.none, rfl, ?_⟩) (args_list_sort _)
  exact h _ (by rw [sortVals_length false rfl]; exact e.length) (sortVals_data false e er' hal)
end

def pairsD (kvs : List (Key × Dv)) : List Dv := kvs.map fun p => Dv.tup [keyD p.1, p.2]
section
variable {X : Cx} {o e : Expr} {go : GE} {apos cpos p pos : Pos}
@[simp] def gSortItems (go : GE) : GE := fun ρ h Q => go ρ h fun d h1 => ∃ a kvs, d = .ref a ∧ h1 a = some (.dK kvs) ∧ dats (pairsD kvs) = true ∧ (∀ x, x ∈ pairsD kvs → dep x ≤ 60) ∧ PySem.W.AllAlike ((pairsD kvs).map py) ∧ PySem.W.Sortable ((pairsD kvs).map py) ∧ Q (.lst ((pairsD kvs).mergeSort dle)) h1
theorem e_sortItems (hc : X.calm = true) (hu : X.A.units + 64 < cLine) (hg : Gl X "sorted") (hm : X.mg "sorted" = none) (he : E3 X e go) (hv : bootBuiltins "sorted" = some (.builtin "sorted") := by decide +kernel) (hbase : attributeBase e "items" X.env (eval e X.env) = eval e X.env := by rfl) (hline : (apos.endLine == cpos.line) = true := by rfl)
    (hs : starEach [.Call (.Attribute e "items" apos) [] [] cpos] X.env = (false, eval (.Call (.Attribute e "items" apos) [] [] cpos) X.env) :: starEach [] X.env := by rfl) :
    E3 X (.Call (.Name "sorted" p) [.Call (.Attribute e "items" apos) [] [] cpos] [] pos) (gSortItems go) := by
  refine ⟨fun pins s σ H Q I ⟨ρ, w, Q3, eH, gd, q, out⟩ => ?_⟩
  subst eH
  refine wpAny_Call_Name_kw (ld_blt I hg hm hv ?_)
  refine PyProof.Rows.callWith_builtin1 ?_ hs rfl
  rw [hs]
  show wpAny _ _ (spliced ((false, eval (.Call (.Attribute e "items" apos) [] [] cpos) X.env) :: backTo pos (starEach [] X.env))) _ _ s
  refine Calls.spliced_cons ?_
  refine wpAny_Call_method (T := "dict") (id := "dict.items") hbase rfl hline F.plainAttrs_dict F.slot_dict_items F.type_dict_items (thn (he.run pins s σ w.H (fun v H1 => ∃ a kvs w1, v = .ref a ∧ w1.H = H1 ∧ Rel X.K w1 ∧ Ext w w1 ∧ w1.h a = some (.dK kvs) ∧ dats (pairsD kvs) = true ∧ (∀ x, x ∈ pairsD kvs → dep x ≤ 60) ∧ PySem.W.AllAlike ((pairsD kvs).map py) ∧ PySem.W.Sortable ((pairsD kvs).map py) ∧ Q3 (.lst ((pairsD kvs).mergeSort dle)) w1.h) I
    ⟨ρ, w, _, rfl, gd, q, fun d w1 v1 ⟨a, kvs, ed, z1, z2, z3, z4, z5, z6⟩ r1 e1 p1 => by subst ed; cases p1; exact ⟨a, kvs, w1, rfl, rfl, r1, e1, z1, z2, z3, z4, z5, z6⟩⟩) fun u s1 ⟨v, H1, I1, rv, a, ks, w1, ev, eH1, r1, e1, hh, hd, hdp, hal, hso, q1⟩ => ?_)
  subst ev eH1
  obtain rfl : u = Value.ref a := rv
  obtain ⟨xs, hG, hH, rk⟩ := r1.mdK hh
  obtain ⟨hz, hs0, vs, kv, hdo⟩ := I1.hok a _ hH
  obtain ⟨ep, hat⟩ := hdo.dictAt
  have lk : xs.length = vs.length := Paired.length kv
  have lr : ks.length = xs.length := rk.length
  have I2 : L2.Inv X pins σ w1.H { s1 with heap := s1.heap.push { cls := .type "dict_items", data := .fields #[.ref a] } } := I1.kept (t' := s1.toks) fun b ob q => Heap.get?_push_of_some _ q
  refine ⟨hdo.typeIs, hdo.mapOf.noDict, ?_⟩
  show wpAny _ _ (callWith cpos (.builtin "dict.items") [.ref a] [] []) _ X.xe s1
  refine method_meetsIn F.slot_dict_items F.entry_dict_items rfl (PySem.evalArgs_none ⟨rfl, hdo.typeIs, F.args_dict_items_1 _, _, meets_dict_items (mixKind X.prog X.w) a hs0, ⟨vs, hdo⟩, ?_⟩)
  refine Calls.spliced_nil ?_
  refine Calls.call_function_entry kind_sorted plain_sorted entry_sorted (args_sorted1 _) ?_
  unfold Builtin.«sorted»
  refine wpAny_bind (m := checkCount "sorted" 1 1 _) (wpAny_pure ?_)
  generalize hs2 : ({ s1 with heap := s1.heap.push { cls := .type "dict_items", data := .fields #[.ref a] } } : Shared) = s2 at I2
  have hview : s2.heap.IsItemsView s1.heap.objs.size a := by rw [← hs2]; exact ⟨_, Heap.get?_push_size _ rfl, rfl, rfl⟩
  have hat2 : s2.heap.DictAt (mixKind X.prog X.w) a vs ep := by rw [← hs2]; exact hat.push _
  refine wpAny_bind (PySem.W.kdx_collect (A := X.A.in1) (knd := mixKind X.prog X.w) (kvs := vs) (ep := ep) (I1.ok.hd hc) hview hat2 (by omega) fun h' tk as hk hl hG2 => ?_)
  refine wpAny_bind (wpAny_newList ?_ (by rw [List.length_map, hl]; omega))
  have low : s2.heap.objs.size ≤ h'.objs.size := by
    obtain ⟨ov, hov, _⟩ := hview
    have q1 := Heap.lt_size (hk _ _ hov)
    have q2 : s2.heap.objs.size = s1.heap.objs.size + 1 := by rw [← hs2]; exact Heap.size_push ..
    rw [q2]
    exact Nat.succ_le_of_lt q1
  obtain ⟨z1, z2⟩ := zip3_fst (as := as) (xs := xs) (ks := ks) (by omega) lr.symm
  have nd : (zip3 as xs ks).map (·.1) |>.Nodup := by
    rw [z1]
    exact List.Pairwise.imp (fun {a b} (h : a < b) => Nat.ne_of_lt h) hG2.rise
  -- the tuples at a heap that keeps what h' holds
  have tups : ∀ hf : Heap, (∀ b o, h'.get? b = some o → b < h'.objs.size → hf.get? b = some o) → ∀ z ∈ zip3 as xs ks, s2.heap.objs.size ≤ z.1 ∧ w1.H z.1 = none ∧ RpAll X.K w1 z.2.2 z.2.1 ∧ ∀ H2, ObjOk X.prog X.w H2 hf z.1 (.tup z.2.1) := by
    intro hf hkp z hzm
    obtain ⟨j, b, x, k, f1, f2, f3, rfl⟩ := zip3_get hzm
    obtain ⟨key, kk, y, g1, g2, g3⟩ := hG2.pairs j b f1
    obtain ⟨qv, y1, y2, y3⟩ := LiI.paired_get kv f2
    rw [g1] at y1
    cases y1
    obtain ⟨x', q1', q2', q3'⟩ := LiI.paired_get rk f3
    rw [f2] at q1'
    cases q1'
    have hb : s2.heap.objs.size ≤ b := Nat.le_of_lt (hG2.above b (List.mem_of_getElem? f1))
    have rkey : RelV (kV x.1) key := by
      rw [y2]
      exact relV_key (show keyIs kk key = true from g2)
    refine ⟨hb, I2.hok.fresh hb, .cons ?_ (.cons q3' .nil), fun H2 => ⟨by show 2 ≤ sizeLine; decide, [key, y], .cons rkey (.cons y3 .nil), ⟨_, hkp b _ g3 (Heap.lt_size g3), rfl, _, rfl⟩⟩⟩
    rw [q2']
    cases x.1 with
    | inl i => exact .int i
    | inr z => exact .str z
  have Ih : L2.Inv X pins σ w1.H { s2 with heap := h', toks := tk } := I2.kept fun b o e => hk b o e
  obtain ⟨w3, I3, r3, e3, eh3, off3, all3⟩ := take_tups I2 (zip3 as xs ks) w1 Ih r1 nd (tups h' fun b o e _ => e)
  have ls : h'.objs.size < (h'.push (seqObj "list" (as.map Value.ref).toArray 0)).objs.size := by rw [Heap.size_push]; exact Nat.lt_succ_self _
  have ho : (h'.push (seqObj "list" (as.map Value.ref).toArray 0)).get? h'.objs.size = some (seqObj "list" (as.map Value.ref).toArray 0) := Heap.get?_push_size _ rfl
  have eA : as.map Value.ref = (zip3 as xs ks).map fun z => Value.ref z.1 := by
    have q2 : (zip3 as xs ks).map (fun z => Value.ref z.1) = ((zip3 as xs ks).map (·.1)).map Value.ref := by rw [List.map_map]; rfl
    rw [q2, z1]
  have ee := each_tups (zip3 as xs ks)
  rw [← eA] at ee
  have eD : ((zip3 as xs ks).map fun z => (V.ref z.1, Dv.tup z.2.2)).map (fun b : V × Dv => b.2) = pairsD ks := by
    rw [List.map_map]
    exact z2
  have em : ((zip3 as xs ks).map fun z => (V.ref z.1, Dv.tup z.2.2)).map (fun b : V × Dv => py b.2) = (pairsD ks).map py := by
    rw [← eD]
    simp only [List.map_map]
    rfl
  have mem3 : ∀ b ∈ (zip3 as xs ks).map fun z => (V.ref z.1, Dv.tup z.2.2), Rp X.K w3 b.2 b.1 ∧ b.2 ∈ pairsD ks := fun b hb => by
    refine ⟨?_, ?_⟩
    · obtain ⟨z, hzm, rfl⟩ := List.mem_map.mp hb
      exact all3 z hzm
    · rw [← eD]
      exact List.mem_map.mpr ⟨b, hb, rfl⟩
  have er : PySem.W.EachIs (fun v (b : V × Dv) => ∃ as', Reads (PySem.W.sortingHeap (h'.push (seqObj "list" (as.map Value.ref).toArray 0)) h'.objs.size (as.map Value.ref)) v (py b.2) as') (as.map Value.ref) ((zip3 as xs ks).map fun z => (V.ref z.1, Dv.tup z.2.2)) := each_mem ee fun u b hb rel => by
    obtain ⟨p3, m3⟩ := mem3 b hb
    obtain ⟨as', rd⟩ := reads_of I3 rfl r3 p3 rel (dats_mem hd _ m3)
    exact ⟨as', PyProof.Rows.Reads.keeps (fun b o q => PySem.W.sortingHeap_old (Nat.ne_of_lt (Heap.lt_size q)) (Heap.get?_push_of_some _ q)) rd⟩
  have hL : ((zip3 as xs ks).map fun z => (V.ref z.1, Dv.tup z.2.2)).length ≤ sizeLine := by
    have q2 := congrArg List.length eD
    rw [List.length_map] at q2
    rw [q2]
    unfold pairsD
    rw [List.length_map]
    omega
  refine wpAny_bind (wpAny_holding (list_sort_read (enc := fun b : V × Dv => py b.2) ho ee er (by rw [em]; exact hal) (by rw [em]; exact hso) hL (fun b hb => ?_) fun out' h1 h2 => wpAny_pure ?_))
  · have := hdp _ (mem3 b hb).2
    simp only [depth_py, Around.in1_units] at *
    omega
  · have eS : (((zip3 as xs ks).map fun z => (V.ref z.1, Dv.tup z.2.2)).mergeSort (PySem.W.dataLe false fun b : V × Dv => py b.2)).map (·.2) = (pairsD ks).mergeSort dle := by
      have q2 := List.map_mergeSort (r := PySem.W.dataLe false fun b : V × Dv => py b.2) (s := dle) (f := fun b : V × Dv => b.2) (l := (zip3 as xs ks).map fun z => (V.ref z.1, Dv.tup z.2.2)) (fun a _ b _ => rfl)
      rw [eD] at q2
      exact q2
    have kp : ∀ b o, h'.get? b = some o → b < h'.objs.size → (sortedHeap (h'.push (seqObj "list" (as.map Value.ref).toArray 0)) h'.objs.size (as.map Value.ref) (List.toArray out')).get? b = some o := fun b o q hb => by
      rw [sortedHeap_old (Nat.ne_of_lt hb) (Nat.lt_trans hb ls)]
      exact Heap.get?_push_of_some _ q
    have If : L2.Inv X pins σ w1.H { s2 with heap := sortedHeap (h'.push (seqObj "list" (as.map Value.ref).toArray 0)) h'.objs.size (as.map Value.ref) (List.toArray out'), toks := tk } := I2.kept fun b o e => kp b o (hk b o e) (Heap.lt_size (hk b o e))
    obtain ⟨w4, I4, r4, e4, eh4, off4, all4⟩ := take_tups I2 (zip3 as xs ks) w1 If r1 nd (tups _ kp)
    have nl : w4.H h'.objs.size = none := by
      rw [off4 _ (fun z => ?_)]
      · exact I2.hok.fresh low
      · rw [z1] at z
        exact absurd (hG2.there z) (Nat.lt_irrefl _)
    have mem4 : ∀ b ∈ ((zip3 as xs ks).map fun z => (V.ref z.1, Dv.tup z.2.2)).mergeSort (PySem.W.dataLe false fun b : V × Dv => py b.2), Rp X.K w4 b.2 b.1 := fun b hb => by
      obtain ⟨z, hzm, rfl⟩ := List.mem_map.mp ((List.mergeSort_perm _ _).mem_iff.mp hb)
      exact all4 z hzm
    have rN := rpAll_of mem4
    rw [eS] at rN
    obtain ⟨ep', he'⟩ := sortedHeap_at (out := List.toArray out') ho
    obtain ⟨r5, e5, p5⟩ := new_lst (p := h'.objs.size) r4 rN nl
    have I5 : L2.Inv X pins σ (upd w4.H h'.objs.size (.lst ((((zip3 as xs ks).map fun z => (V.ref z.1, Dv.tup z.2.2)).mergeSort (PySem.W.dataLe false fun b : V × Dv => py b.2)).map (·.1)))) { s2 with heap := sortedHeap (h'.push (seqObj "list" (as.map Value.ref).toArray 0)) h'.objs.size (as.map Value.ref) (List.toArray out'), toks := tk } := by
      refine I4.take (fun b ob _ e => e) (I2.fpOk low nl) ⟨?_, out', ep', vals_each h2, he'⟩
      rw [List.length_map, (List.mergeSort_perm _ _).length_eq]
      exact hL
    refine ⟨_, rfl, .ref _, _, ?_, rfl, out.go r5 ((e1.trans e4).trans e5) p5 ?_⟩
    · subst hs2
      exact I5
    · show Q3 _ w4.h
      rw [eh4]
      exact q1
end
end G3

namespace G3
open PySem L2 RZ PyProof.Rows

/-! ### sorted(xs) as a list that may change -/
def cMSorted : DC := fun ds h Q => ∃ d, ds = [d] ∧ ∃ xs : List Str, lstOf h d = some (xs.map Dv.str) ∧ xs.length < 64 ∧ ∀ ys : List Str, ys.Perm xs → PyProof.Rows.sortedS ys = true → ∀ p, h p = none → Q (.ref p) (mput h p (.lst (ys.map Dv.str)))
theorem c_msorted {X : Cx} : C3 X (.builtin "sorted") cMSorted := by
  intro pins s σ H xs us Q I rx h
  obtain ⟨ds, w, Q3, e, r, ra, ⟨d, rfl, zs, hs, hl, q⟩, out⟩ := h
  subst e
  obtain ⟨x, rfl, rp⟩ := ra.one
  obtain ⟨p, ys, rfl, hq, rb⟩ := lstOf_at r rp hs
  rw [strs_of rb] at hq
  refine cr_sortedS pins s σ w.H _ us Q I rx ⟨p, zs, rfl, hq, hl, fun ms l hp hw nl => ?_⟩
  obtain ⟨r2, e2⟩ := put_lst (p := l) r (of_strs (w := w) ms) (.inl nl)
  exact out.go r2 e2 (.ref l) (q ms hp hw l (r.hnone nl).2)

/-! ### what is read through lists that may change -/
mutual
def res (h : Mh) : Dv → Dv
  | .ref a => match h a with | some (.lst ds) => .lst ds | _ => .ref a
  | .tup ds => .tup (ress h ds)
  | .lst ds => .lst (ress h ds)
  | .non => .non
  | .bl b => .bl b
  | .int i => .int i
  | .str z => .str z
  | .obj n => .obj n
  | .ty n => .ty n
def ress (h : Mh) : List Dv → List Dv
  | [] => []
  | d :: ds => res h d :: ress h ds
end
def frzH (h : Mh) : Mh := fun a => match h a with | some (.lst ds) => if dats ds = true then none else some (.lst ds) | o => o
theorem frzH_none {h : Mh} {a : Addr} (e : h a = none) : frzH h a = none := by unfold frzH; rw [e]
theorem frzH_some {h : Mh} {a : Addr} {m : Mo} (e : frzH h a = some m) : h a = some m := by
  unfold frzH at e
  split at e
  · split at e
    · cases e
    · rename_i hh _
      rw [hh]; exact e
  · exact e
theorem frzH_still {h : Mh} {a : Addr} (s : Still h a) : Still (frzH h) a := by
  unfold Still at s ⊢
  unfold frzH
  cases e : h a with
  | none => trivial
  | some m =>
    rw [e] at s
    cases m with
    | lkK _ => trivial
    | lkT _ => trivial
    | _ => exact s.elim
section
variable {K : PySem.W.Frag} {w : Wd}
theorem Rel.frzAll (r : Rel K w) : Rel K ⟨frzH w.h, w.G, w.H⟩ ∧ Fzs w ⟨frzH w.h, w.G, w.H⟩ := by
  have fz : Fzs w ⟨frzH w.h, w.G, w.H⟩ := fun p u h1 h2 => ⟨h2, frzH_none h1⟩
  refine ⟨⟨fun p u h => ?_, fun a m h => ?_, r.tab.same (fun q z => frzH_none z) (fun _ _ z _ => z) (fun _ _ _ z => z), r.all⟩, fz⟩
  · rcases r.sub p u h with z | ⟨z1, nt, o, z⟩
    · exact .inl z
    · exact .inr ⟨frzH_still z1, nt, o, z⟩
  · exact RpO.fz fz (fun _ z => z) (fun _ => rfl) (r.obj a m (frzH_some h))
mutual
theorem rp_res (r : Rel K w) : ∀ (d : Dv) (v : V), Rp K w d v → dat (res w.h d) = true → Rp K ⟨frzH w.h, w.G, w.H⟩ (res w.h d) v
  | .ref a, v, p, hd => by
    cases p
    unfold res at hd ⊢
    cases e : w.h a with
    | none => rw [e] at hd; simp at hd
    | some m =>
      rw [e] at hd
      cases m with
      | lst ds =>
        obtain ⟨xs, hG, hH, ra⟩ := r.mlst e
        have hd : dats ds = true := by simpa using hd
        exact .lst (.inl ⟨by show frzH w.h a = none; unfold frzH; rw [e]; dsimp only; rw [if_pos hd], hG⟩) (RpAll.fz r.frzAll.2 ra)
      | _ => simp at hd
  | .tup ds, v, p, hd => by
    cases p with
    | tup ta ra =>
      unfold res at hd ⊢
      have hd : dats (ress w.h ds) = true := by simpa using hd
      exact .tup ⟨frzH_none ta.1, ta.2⟩ (rps_res r ds _ ra hd)
  | .lst ds, v, p, hd => by
    cases p with
    | lst ta ra =>
      unfold res at hd ⊢
      have hd : dats (ress w.h ds) = true := by simpa using hd
      refine .lst ?_ (rps_res r ds _ ra hd)
      rcases ta with ⟨t1, t2⟩ | t
      · exact .inl ⟨frzH_none t1, t2⟩
      · exact .inr t
  | .non, v, p, hd => by cases p; unfold res; exact .non
  | .bl b, v, p, hd => by cases p; unfold res; exact .bl b
  | .int i, v, p, hd => by cases p; unfold res; exact .int i
  | .str z, v, p, hd => by cases p; unfold res; exact .str z
  | .obj n, v, p, hd => by unfold res at hd; simp at hd
  | .ty n, v, p, hd => by unfold res at hd; simp at hd
theorem rps_res (r : Rel K w) : ∀ (ds : List Dv) (vs : List V), RpAll K w ds vs → dats (ress w.h ds) = true → RpAll K ⟨frzH w.h, w.G, w.H⟩ (ress w.h ds) vs
  | [], vs, p, hd => by cases p; unfold ress; exact .nil
  | d :: ds, vs, p, hd => by
    cases p with
    | cons a b =>
      unfold ress at hd ⊢
      have hd : dat (res w.h d) = true ∧ dats (ress w.h ds) = true := by simpa using hd
      exact .cons (rp_res r d _ a hd.1) (rps_res r ds _ b hd.2)
end
end
/-- repr, through lists that may change -/
def cReprR : DC := fun ds h Q => ∃ d, ds = [d] ∧ okR (res h d) ∧ Q (.str (shw (res h d))) h
theorem c_reprR {X : Cx} (hg : X.A.guards = some []) (hu : X.A.units + 64 < cLine) : C3 X (.builtin "repr") cReprR := by
  intro pins s σ H xs us Q I rx h
  obtain ⟨ds, w, Q3, e, r, ra, ⟨d, rfl, ⟨hd, hp, hs, hz⟩, q⟩, out⟩ := h
  subst e
  obtain ⟨x, rfl, rp0⟩ := ra.one
  obtain ⟨u, rfl, ru⟩ := vals1 rx
  have rp := rp_res r d x rp0 hd
  obtain ⟨as, rd⟩ := reads_of I (w := ⟨frzH w.h, w.G, w.H⟩) rfl r.frzAll.1 rp ru hd
  generalize res w.h d = d' at *
  have fin : ∀ t k, (∀ h', (∀ b o, s.heap.get? b = some o → h'.get? b = some o) → EP X pins σ Q (.str (shw d') t) { s with heap := h', toks := k }) := fun t k h' kp =>
    ⟨.str (shw d'), w.H, I.kept kp, ⟨t, rfl⟩, out _ w _ q r (Ext.refl w) (.str _)⟩
  have nodict : (py d').hasDict = true → sysModules ∉ as := PyData.noDict_hsm (hasDict_py d')
  cases rp with
  | non => cases ru; exact P.repr_of_none (fin _ _ s.heap fun _ _ e => e)
  | bl b => cases ru; exact P.repr_of_bool (fin _ _ s.heap fun _ _ e => e)
  | int i =>
    obtain ⟨t, rfl⟩ := ru
    exact P.repr_of_int (of_decide_eq_true (by simpa [py, PyData.showable] using hs)) (fin _ _ s.heap fun _ _ e => e)
  | str z =>
    obtain ⟨t, rfl⟩ := ru
    exact P.repr_of_str (fin _ _ s.heap fun _ _ e => e) (by simpa [shw, py, PyData.shown] using hz)
  | tup ta ra =>
    cases ru
    exact repr_of_reads' rd hs nodict hg (by rw [depth_py]; omega) (fun _ _ e => e) (fun h' t k kp => fin t k h' kp) hz
  | lst ta ra =>
    cases ru
    exact repr_of_reads' rd hs nodict hg (by rw [depth_py]; omega) (fun _ _ e => e) (fun h' t k kp => fin t k h' kp) hz
  | ref a => simp at hd
  | obj a => simp at hd
  | ty n => simp at hd

/-! ### a list changes no more from here on -/
@[simp] def gFrzS (i : Nat) (st : GS) : GS := fun E ρ h => ∃ a ds, slot ρ i = some (.ref a) ∧ h a = some (.lst ds) ∧ st E (ρ.set i (some (.lst ds))) (mdel h a)
theorem s_frzS {X : Cx} {st : Stmt} {g : GS} (i : Nat) (h : S3 X st g) : S3 X st (gFrzS i g) := PSimp h fun D σ H ⟨ρ, w, E, eH, gd, ⟨a, ds, hs, hh, q⟩, out⟩ => by
  subst eH
  obtain ⟨xs, hG, hH, ra⟩ := gd.rel.mlst hh
  obtain ⟨r2, e2⟩ := gd.rel.del a fun m e l => by
    rw [hh] at e
    cases e
    exact l
  refine ⟨ρ.set i (some (.lst ds)), ⟨mdel w.h a, w.G, w.H⟩, E, rfl, ⟨r2, by rw [List.length_set]; exact gd.len, fun j d hd => ?_⟩, q, out.ext e2⟩
  by_cases n : i = j
  · subst n
    have hl : i < ρ.length := by
      have := slot_get hs
      exact (List.getElem?_eq_some_iff.mp this).1
    rw [List.getElem?_set_self hl] at hd
    cases hd
    obtain ⟨v, h1, h2⟩ := gd.at_ i _ (slot_get hs)
    cases h2
    exact ⟨.ref a, h1, .lst (.inl ⟨mdel_same, hG⟩) (ra.ext e2)⟩
  · rw [List.getElem?_set_ne n] at hd
    obtain ⟨v, h1, h2⟩ := gd.at_ j d hd
    exact ⟨v, h1, h2.ext e2⟩
end G3

namespace G3
open PySem L2 RZ PyProof.Rows

/-! ### xs == [] of any list, d != {} of any dict -/
def rEqNil (neg : Bool) : D2 := fun a b h Q => ∃ xs ys, lstOf h a = some xs ∧ lstOf h b = some ys ∧ (xs = [] ∨ ys = []) ∧ Q (.bl (if neg then !(xs.isEmpty && ys.isEmpty) else xs.isEmpty && ys.isEmpty)) h
theorem o_eqNil {X : Cx} (hu : X.A.units + 64 < cLine) : OpR X (compareOp .Eq) (lo2 X.K (rEqNil false)) := by
  intro pins s σ H x y v u Q I rx ry h
  obtain ⟨a, b, w, Q3, e, r, pa, pb, ⟨xs, ys, h1, h2, he, q⟩, out⟩ := h
  subst e
  obtain ⟨p, vs, rfl, hp, rp⟩ := lstOf_at r pa h1
  obtain ⟨p', us, rfl, hp', rp'⟩ := lstOf_at r pb h2
  obtain ⟨its, rv, hl, hz⟩ := I.list hp
  obtain ⟨its', rv', hl', hz'⟩ := I.list hp'
  cases (show v = Value.ref p from rx)
  cases (show u = Value.ref p' from ry)
  have l1 : its.length = xs.length := by rw [← rv.length, ← rp.length]
  have l2 : its'.length = ys.length := by rw [← rv'.length, ← rp'.length]
  by_cases hb : xs.length = ys.length
  · have hx : xs = [] ∧ ys = [] := by
      rcases he with rfl | rfl
      · exact ⟨rfl, List.eq_nil_of_length_eq_zero hb.symm⟩
      · exact ⟨List.eq_nil_of_length_eq_zero hb, rfl⟩
    obtain ⟨rfl, rfl⟩ := hx
    have e1 : its = [] := List.eq_nil_of_length_eq_zero l1
    have e2 : its' = [] := List.eq_nil_of_length_eq_zero l2
    subst e1 e2
    exact SeqAt.eq_listAt (e := fun _ => true) hl.isList hl'.isList rfl (by omega) (fun j h1 _ => by simp at h1) ⟨.bl true, w.H, I, rfl, out _ w _ q r (Ext.refl w) (.bl _)⟩
  · have hx : (xs.isEmpty && ys.isEmpty) = false := by
      rcases he with rfl | rfl
      · cases ys with
        | nil => exact absurd rfl hb
        | cons y ys => rfl
      · cases xs with
        | nil => exact absurd rfl hb
        | cons y ys => rfl
    rw [hx] at q
    refine SeqAt.eq_list_lengthsAt hl.isList hl'.isList ?_ (by omega) ⟨.bl false, w.H, I, rfl, out _ w _ q r (Ext.refl w) (.bl _)⟩
    simp only [List.size_toArray, l1, l2]
    simpa using hb
def rNeDE : D2 := fun a b h Q => ∃ p q ks js, a = .ref p ∧ b = .ref q ∧ h p = some (.dK ks) ∧ h q = some (.dK js) ∧ (ks = [] ∨ js = []) ∧ Q (.bl (!(ks.isEmpty && js.isEmpty))) h
theorem o_neDE {X : Cx} (hu : X.A.units + 64 < cLine) : OpR X (compareOp .NotEq) (lo2 X.K rNeDE) := by
  intro pins s σ H x y v u Q I rx ry h
  obtain ⟨a, b, w, Q3, e, r, pa, pb, ⟨p, p', ks, js, rfl, rfl, h1, h2, he, q⟩, out⟩ := h
  subst e
  cases pa
  cases pb
  cases (show v = Value.ref p from rx)
  cases (show u = Value.ref p' from ry)
  obtain ⟨xs, hG, hH, rk⟩ := r.mdK h1
  obtain ⟨ys, hG', hH', rk'⟩ := r.mdK h2
  obtain ⟨hz, hs0, vs, kv, hdo⟩ := I.hok p _ hH
  obtain ⟨hz', hs0', vs', kv', hdo'⟩ := I.hok p' _ hH'
  have l1 : vs.length = ks.length := by rw [← Paired.length kv, rk.length]
  have l2 : vs'.length = js.length := by rw [← Paired.length kv', rk'.length]
  have ee : (vs.length == vs'.length && true) = (ks.isEmpty && js.isEmpty) := by
    rw [l1, l2, Bool.and_true]
    rcases he with rfl | rfl
    · cases js <;> rfl
    · cases ks <;> rfl
  refine PySem.W.keq_ne (r := true) hs0 hs0' hdo hdo' (by omega) (fun e => ?_) ?_
  · have hx : ks = [] := by
      rcases he with rfl | rfl
      · rfl
      · exact List.eq_nil_of_length_eq_zero (by rw [← l1, e, l2]; rfl)
    subst hx
    have e1 : vs = [] := List.eq_nil_of_length_eq_zero l1
    subst e1
    exact .nil
  · rw [ee]
    exact ⟨.bl _, w.H, I, rfl, out _ w _ q r (Ext.refl w) (.bl _)⟩
end G3

namespace L73
open PySem L2 G3
abbrev k_FIGURES : Str := "0123456789"
abbrev k_GREAT : Str := "ABCDEFGHIJKLMNOPQRSTUVWXYZ"
abbrev k_SMALL : Str := "abcdefghijklmnopqrstuvwxyz"
def tbl : CTab := [("ReadError", [("ReadError", true), ("NoPiece", false), ("Endless", false), ("NoStretch", false), ("NoPlace", false), ("NoCut", false), ("NoSign", false), ("TooLong", false), ("NoBatch", false), ("NoBack", false), ("NoForbid", false), ("NoMark", false), ("NoRow", false), ("NoText", false)]), ("NoPiece", [("ReadError", true), ("NoPiece", true), ("Endless", false), ("NoStretch", false), ("NoPlace", false), ("NoCut", false), ("NoSign", false), ("TooLong", false), ("NoBatch", false), ("NoBack", false), ("NoForbid", false), ("NoMark", false), ("NoRow", false), ("NoText", false)]), ("Endless", [("ReadError", true), ("NoPiece", false), ("Endless", true), ("NoStretch", false), ("NoPlace", false), ("NoCut", false), ("NoSign", false), ("TooLong", false), ("NoBatch", false), ("NoBack", false), ("NoForbid", false), ("NoMark", false), ("NoRow", false), ("NoText", false)]), ("NoStretch", [("ReadError", true), ("NoPiece", false), ("Endless", false), ("NoStretch", true), ("NoPlace", false), ("NoCut", false), ("NoSign", false), ("TooLong", false), ("NoBatch", false), ("NoBack", false), ("NoForbid", false), ("NoMark", false), ("NoRow", false), ("NoText", false)]), ("NoPlace", [("ReadError", true), ("NoPiece", false), ("Endless", false), ("NoStretch", false), ("NoPlace", true), ("NoCut", false), ("NoSign", false), ("TooLong", false), ("NoBatch", false), ("NoBack", false), ("NoForbid", false), ("NoMark", false), ("NoRow", false), ("NoText", false)]), ("NoCut", [("ReadError", true), ("NoPiece", false), ("Endless", false), ("NoStretch", false), ("NoPlace", false), ("NoCut", true), ("NoSign", false), ("TooLong", false), ("NoBatch", false), ("NoBack", false), ("NoForbid", false), ("NoMark", false), ("NoRow", false), ("NoText", false)]), ("NoSign", [("ReadError", true), ("NoPiece", false), ("Endless", false), ("NoStretch", false), ("NoPlace", false), ("NoCut", false), ("NoSign", true), ("TooLong", false), ("NoBatch", false), ("NoBack", false), ("NoForbid", false), ("NoMark", false), ("NoRow", false), ("NoText", false)]), ("TooLong", [("ReadError", true), ("NoPiece", false), ("Endless", false), ("NoStretch", false), ("NoPlace", false), ("NoCut", false), ("NoSign", false), ("TooLong", true), ("NoBatch", false), ("NoBack", false), ("NoForbid", false), ("NoMark", false), ("NoRow", false), ("NoText", false)]), ("NoBatch", [("ReadError", true), ("NoPiece", false), ("Endless", false), ("NoStretch", false), ("NoPlace", false), ("NoCut", false), ("NoSign", false), ("TooLong", false), ("NoBatch", true), ("NoBack", false), ("NoForbid", false), ("NoMark", false), ("NoRow", false), ("NoText", false)]), ("NoBack", [("ReadError", true), ("NoPiece", false), ("Endless", false), ("NoStretch", false), ("NoPlace", false), ("NoCut", false), ("NoSign", false), ("TooLong", false), ("NoBatch", false), ("NoBack", true), ("NoForbid", false), ("NoMark", false), ("NoRow", false), ("NoText", false)]), ("NoForbid", [("ReadError", true), ("NoPiece", false), ("Endless", false), ("NoStretch", false), ("NoPlace", false), ("NoCut", false), ("NoSign", false), ("TooLong", false), ("NoBatch", false), ("NoBack", false), ("NoForbid", true), ("NoMark", false), ("NoRow", false), ("NoText", false)]), ("NoMark", [("ReadError", true), ("NoPiece", false), ("Endless", false), ("NoStretch", false), ("NoPlace", false), ("NoCut", false), ("NoSign", false), ("TooLong", false), ("NoBatch", false), ("NoBack", false), ("NoForbid", false), ("NoMark", true), ("NoRow", false), ("NoText", false)]), ("NoRow", [("ReadError", true), ("NoPiece", false), ("Endless", false), ("NoStretch", false), ("NoPlace", false), ("NoCut", false), ("NoSign", false), ("TooLong", false), ("NoBatch", false), ("NoBack", false), ("NoForbid", false), ("NoMark", false), ("NoRow", true), ("NoText", false)]), ("NoText", [("ReadError", true), ("NoPiece", false), ("Endless", false), ("NoStretch", false), ("NoPlace", false), ("NoCut", false), ("NoSign", false), ("TooLong", false), ("NoBatch", false), ("NoBack", false), ("NoForbid", false), ("NoMark", false), ("NoRow", false), ("NoText", true)])]
def itb : ITab := [("Climb", ["known", "knots", "head", "begun", "root"])]
def W_is_name : GS :=
  (gSeq (gIfS (gOrT (gNotT (gTest (gCall cIsi (gCons (gVar 0) (gCons (gC (.ty "str")) gNil))))) (gNotT (gTest (gChain rLtD rLeD (gC (.int 0)) (gCall cLen (gCons (gVar 0) gNil)) (gC (.int 6)))))) (gRet (gC (.bl false))) gNext)
  (gRet (gAnd (gOp (rInD false) (gOp rIxD (gVar 0) (gC (.int 0))) (gC (.str k_GREAT))) (gCall cAll (gCons (gLc [1] (gIt (gSl (gVar 0) (gPart (gC (.int 1))) gNoPart)) (ggName 1) gYes (gOp (rInD false) (gVar 1) (gOp rAddD (gC (.str k_SMALL)) (gC (.str k_FIGURES))))) gNil)))))
def sp_is_name : Sp3 := fun ds h Q => ds.length = 1 ∧ W_is_name { nx := fun _ h' => Q .non h', rt := Q } (startD ["thing", "letter"] ds) h
theorem len_is_name : ∀ ds h Q, sp_is_name ds h Q → ds.length = [("thing" : Str)].length := fun _ _ _ z => z.1
theorem w_is_name : ∀ ds h Q, sp_is_name ds h Q → W_is_name { nx := fun _ h' => Q .non h', rt := Q } (startD ["thing", "letter"] ds) h := fun _ _ _ z => z.2
def W_lam_fruitful : GE :=
  (gNot (gFn sp_is_name (gCons (gVar 0) gNil)))
def sp_lam_fruitful : Sp3 := fun ds h Q => ds.length = 1 ∧ W_lam_fruitful (startD ["word"] ds) h Q
def lams_whole_names : List (Str × Sp3) := [("fruitful", sp_lam_fruitful)]
def W_whole_names : GS :=
  (gSeq (gSet 2 (gMLst gNil))
  (gSeq (gSet 3 (gUn rNegD (gC (.int 1))))
  (gSeq (gWhile (gTest (gOp rLtD (gVar 3) (gCall cLen (gCons (gVar 2) gNil))))
  (gSeq (gSet 3 (gCall cLen (gCons (gVar 2) gNil)))
  (gFor (gIt (gOp rIxD (gVar 0) (gC (.int 1)))) (ggTup 2 (ggCons (ggName 4) (ggCons (ggName 5) ggNil)))
  (gIfS (gAndT (gTest (gOp (rInD true) (gVar 4) (gVar 2))) (gTest (gCall cAll (gCons (gLc [6] (gIt (gVar 5)) (ggName 6) gYes (gOr (gOp (rInD false) (gVar 6) (gVar 2)) (gCallLam 1 lams_whole_names (gCons (gVar 6) gNil)))) gNil)))) (gDrop (gBM "list" mAppend (gVar 2) (gCons (gVar 4) gNil))) gNext))))
  (gRet (gCall cMSorted (gCons (gVar 2) gNil))))))
def sp_whole_names : Sp3 := fun ds h Q => ds.length = 2 ∧ W_whole_names { nx := fun _ h' => Q .non h', rt := Q } (startD ["rules", "known", "found", "count", "head", "body", "word"] ds) h
theorem len_whole_names : ∀ ds h Q, sp_whole_names ds h Q → ds.length = [("rules" : Str), ("known" : Str)].length := fun _ _ _ z => z.1
theorem w_whole_names : ∀ ds h Q, sp_whole_names ds h Q → W_whole_names { nx := fun _ h' => Q .non h', rt := Q } (startD ["rules", "known", "found", "count", "head", "body", "word"] ds) h := fun _ _ _ z => z.2
def W_fruitful : GS :=
  (gRet (gFn sp_whole_names (gCons (gVar 0) (gCons (gLam "fruitful") gNil))))
def sp_fruitful : Sp3 := fun ds h Q => ds.length = 1 ∧ W_fruitful { nx := fun _ h' => Q .non h', rt := Q } (startD ["rules"] ds) h
theorem len_fruitful : ∀ ds h Q, sp_fruitful ds h Q → ds.length = [("rules" : Str)].length := fun _ _ _ z => z.1
theorem w_fruitful : ∀ ds h Q, sp_fruitful ds h Q → W_fruitful { nx := fun _ h' => Q .non h', rt := Q } (startD ["rules"] ds) h := fun _ _ _ z => z.2
def W_good_rows : GS :=
  (gSeq (gSet 1 (gFn sp_fruitful (gCons (gVar 0) gNil)))
  (gSeq (gSet 2 (gMLst gNil))
  (gSeq (gFor (gEnum (gCons (gOp rIxD (gVar 0) (gC (.int 1))) gNil)) (ggTup 2 (ggCons (ggName 3) (ggCons (ggTup 2 (ggCons (ggName 4) (ggCons (ggName 5) ggNil))) ggNil)))
  (gIfS (gTest (gCall cAll (gCons (gLc [6] (gIt (gOp rAddD (gTup (gCons (gVar 4) gNil)) (gVar 5))) (ggName 6) gYes (gOr (gNot (gFn sp_is_name (gCons (gVar 6) gNil))) (gOp (rInD false) (gVar 6) (gVar 1)))) gNil))) (gDrop (gBM "list" mAppend (gVar 2) (gCons (gTup (gCons (gVar 3) (gCons (gVar 4) (gCons (gVar 5) gNil)))) gNil))) gNext))
  (gRet (gFrz (gVar 2))))))
def sp_good_rows : Sp3 := fun ds h Q => ds.length = 1 ∧ W_good_rows { nx := fun _ h' => Q .non h', rt := Q } (startD ["rules", "good", "found", "number", "head", "body", "word"] ds) h
theorem len_good_rows : ∀ ds h Q, sp_good_rows ds h Q → ds.length = [("rules" : Str)].length := fun _ _ _ z => z.1
theorem w_good_rows : ∀ ds h Q, sp_good_rows ds h Q → W_good_rows { nx := fun _ h' => Q .non h', rt := Q } (startD ["rules", "good", "found", "number", "head", "body", "word"] ds) h := fun _ _ _ z => z.2
def W_Climb_begins : GS :=
  (gSeq (gSetF itb "head" (gVar 0) (gVar 2))
  (gSeq (gSetF itb "begun" (gVar 0) (gAnd (gOp (rEqD3 false) (gVar 1) (gC (.str "["))) (gOp rNeDE (gFld itb "known" (gVar 0)) gDNewK)))
  (gRet (gFld itb "begun" (gVar 0)))))
def sp_Climb_begins : Sp3 := fun ds h Q => ds.length = 3 ∧ W_Climb_begins { nx := fun _ h' => Q .non h', rt := Q } (startD ["self", "word", "head"] ds) h
theorem len_Climb_begins : ∀ ds h Q, sp_Climb_begins ds h Q → ds.length = [("self" : Str), ("word" : Str), ("head" : Str)].length := fun _ _ _ z => z.1
theorem w_Climb_begins : ∀ ds h Q, sp_Climb_begins ds h Q → W_Climb_begins { nx := fun _ h' => Q .non h', rt := Q } (startD ["self", "word", "head"] ds) h := fun _ _ _ z => z.2
def W_Climb_ends : GS :=
  (gSeq (gAsg (gBM0 "list" mPop (gFld itb "knots" (gVar 0))) (ggTup 3 (ggCons (ggName 1) (ggCons (ggName 2) (ggCons (ggName 3) ggNil)))))
  (gSeq (gIfS (gTest (gOp (rEqNil false) (gFld itb "knots" (gVar 0)) (gLst gNil))) (gSetF itb "root" (gVar 0) (gTup (gCons (gVar 1) (gCons (gCall cTuple (gCons (gVar 3) gNil)) gNil)))) (gDrop (gBM "list" mAppend (gOp rIxD (gOp rIxD (gFld itb "knots" (gVar 0)) (gUn rNegD (gC (.int 1)))) (gC (.int 2))) (gCons (gTup (gCons (gVar 1) (gCons (gCall cTuple (gCons (gVar 3) gNil)) gNil))) gNil))))
  (gRet (gC (.bl true)))))
def sp_Climb_ends : Sp3 := fun ds h Q => ds.length = 1 ∧ W_Climb_ends { nx := fun _ h' => Q .non h', rt := Q } (startD ["self", "number", "body", "kids"] ds) h
theorem len_Climb_ends : ∀ ds h Q, sp_Climb_ends ds h Q → ds.length = [("self" : Str)].length := fun _ _ _ z => z.1
theorem w_Climb_ends : ∀ ds h Q, sp_Climb_ends ds h Q → W_Climb_ends { nx := fun _ h' => Q .non h', rt := Q } (startD ["self", "number", "body", "kids"] ds) h := fun _ _ _ z => z.2
def W_Climb_takes_rule : GS :=
  (gSeq (gIfS (gOrT (gTest (gDIn true (gVar 1) (gFld itb "known" (gVar 0)))) (gTest (gOp (rInD true) (gFld itb "head" (gVar 0)) (gTup (gCons (gC .non) (gCons (gOp rIxD (gDGet (gFld itb "known" (gVar 0)) (gVar 1)) (gC (.int 1))) gNil)))))) (gRet (gC (.bl false))) gNext)
  (gSeq (gAsg (gDGet (gFld itb "known" (gVar 0)) (gVar 1)) (ggTup 3 (ggCons (ggName 2) (ggCons (ggName 3) (ggCons (ggName 4) ggNil)))))
  (gSeq (gDrop (gBM "list" mAppend (gFld itb "knots" (gVar 0)) (gCons (gTup (gCons (gVar 2) (gCons (gVar 4) (gCons (gMLst gNil) gNil)))) gNil)))
  (gSeq (gSetF itb "begun" (gVar 0) (gC (.bl false)))
  (gRet (gC (.bl true)))))))
def sp_Climb_takes_rule : Sp3 := fun ds h Q => ds.length = 2 ∧ W_Climb_takes_rule { nx := fun _ h' => Q .non h', rt := Q } (startD ["self", "word", "number", "head", "body"] ds) h
theorem len_Climb_takes_rule : ∀ ds h Q, sp_Climb_takes_rule ds h Q → ds.length = [("self" : Str), ("word" : Str)].length := fun _ _ _ z => z.1
theorem w_Climb_takes_rule : ∀ ds h Q, sp_Climb_takes_rule ds h Q → W_Climb_takes_rule { nx := fun _ h' => Q .non h', rt := Q } (startD ["self", "word", "number", "head", "body"] ds) h := fun _ _ _ z => z.2
def W_Climb_takes : GS :=
  (gSeq (gIfS (gTest (gOp (rIsD true) (gFld itb "root" (gVar 0)) (gC .non))) (gRet (gC (.bl false))) gNext)
  (gSeq (gIfS (gTest (gFld itb "begun" (gVar 0))) (gRet (gMeth "Climb" "takes_rule" sp_Climb_takes_rule (gVar 0) (gCons (gVar 1) gNil))) gNext)
  (gSeq (gIfS (gTest (gOp (rEqNil false) (gFld itb "knots" (gVar 0)) (gLst gNil))) (gRet (gMeth "Climb" "begins" sp_Climb_begins (gVar 0) (gCons (gVar 1) (gCons (gC .non) gNil)))) gNext)
  (gSeq (gAsg (gOp rIxD (gFld itb "knots" (gVar 0)) (gUn rNegD (gC (.int 1)))) (ggTup 3 (ggCons (ggName 2) (ggCons (ggName 3) (ggCons (ggName 4) ggNil)))))
  (gSeq (gIfS (gTest (gOp (rEqD3 false) (gCall cLen (gCons (gVar 4) gNil)) (gCall cLen (gCons (gVar 3) gNil)))) (gRet (gAnd (gOp (rEqD3 false) (gVar 1) (gC (.str "]"))) (gMeth "Climb" "ends" sp_Climb_ends (gVar 0) gNil))) gNext)
  (gSeq (gIfS (gTest (gFn sp_is_name (gCons (gOp rIxD (gVar 3) (gCall cLen (gCons (gVar 4) gNil))) gNil))) (gRet (gMeth "Climb" "begins" sp_Climb_begins (gVar 0) (gCons (gVar 1) (gCons (gOp rIxD (gVar 3) (gCall cLen (gCons (gVar 4) gNil))) gNil)))) gNext)
  (gSeq (gDrop (gBM "list" mAppend (gVar 4) (gCons (gVar 1) gNil)))
  (gRet (gOp (rEqD3 false) (gVar 1) (gOp rIxD (gVar 3) (gOp rSubD (gCall cLen (gCons (gVar 4) gNil)) (gC (.int 1)))))))))))))
def sp_Climb_takes : Sp3 := fun ds h Q => ds.length = 2 ∧ W_Climb_takes { nx := fun _ h' => Q .non h', rt := Q } (startD ["self", "word", "number", "body", "kids"] ds) h
theorem len_Climb_takes : ∀ ds h Q, sp_Climb_takes ds h Q → ds.length = [("self" : Str), ("word" : Str)].length := fun _ _ _ z => z.1
theorem w_Climb_takes : ∀ ds h Q, sp_Climb_takes ds h Q → W_Climb_takes { nx := fun _ h' => Q .non h', rt := Q } (startD ["self", "word", "number", "body", "kids"] ds) h := fun _ _ _ z => z.2
def W_Climb___init__ : GS :=
  (gSeq (gSetF itb "known" (gVar 0) (gDc [2, 3, 4] (gIt (gFn sp_good_rows (gCons (gVar 1) gNil))) (ggTup 3 (ggCons (ggName 2) (ggCons (ggName 3) (ggCons (ggName 4) ggNil)))) gYes (gCall cStrI (gCons (gVar 2) gNil)) (gTup (gCons (gVar 2) (gCons (gVar 3) (gCons (gVar 4) gNil))))))
  (gSeq (gSetF itb "knots" (gVar 0) (gMLst gNil))
  (gSeq (gSetF itb "head" (gVar 0) (gC .non))
  (gSeq (gSetF itb "begun" (gVar 0) (gC (.bl false)))
  (gSetF itb "root" (gVar 0) (gC .non))))))
def sp_Climb___init__ : Sp3 := fun ds h Q => ds.length = 2 ∧ W_Climb___init__ { nx := fun _ h' => Q .non h', rt := Q } (startD ["self", "rules", "number", "head", "body"] ds) h
theorem len_Climb___init__ : ∀ ds h Q, sp_Climb___init__ ds h Q → ds.length = [("self" : Str), ("rules" : Str)].length := fun _ _ _ z => z.1
theorem w_Climb___init__ : ∀ ds h Q, sp_Climb___init__ ds h Q → W_Climb___init__ { nx := fun _ h' => Q .non h', rt := Q } (startD ["self", "rules", "number", "head", "body"] ds) h := fun _ _ _ z => z.2
def W_read_tree : GS :=
  (gSeq (gSet 2 (gBM "str" mSplit (gVar 1) (gCons (gC (.str " ")) gNil)))
  (gSeq (gSet 3 (gNew "Climb" sp_Climb___init__ (gCons (gVar 0) gNil)))
  (gSeq (gFor (gEnum (gCons (gVar 2) gNil)) (ggTup 2 (ggCons (ggName 4) (ggCons (ggName 5) ggNil)))
  (gIfS (gNotT (gTest (gMeth "Climb" "takes" sp_Climb_takes (gVar 3) (gCons (gVar 5) gNil)))) (gRaiseF "NoText" "at" (gVar 4)) gNext))
  (gSeq (gIfS (gTest (gOp (rIsD false) (gFld itb "root" (gVar 3)) (gC .non))) (gRaiseF "NoText" "at" (gCall cLen (gCons (gVar 2) gNil))) gNext)
  (gRet (gFld itb "root" (gVar 3)))))))
def sp_read_tree : Sp4 := fun ds h Q E => ds.length = 2 ∧ W_read_tree { nx := fun _ h' => Q .non h', rt := Q, xc := E } (startD ["rules", "line", "words", "climb", "at", "word"] ds) h
theorem len_read_tree : ∀ ds h Q E, sp_read_tree ds h Q E → ds.length = [("rules" : Str), ("line" : Str)].length := fun _ _ _ _ z => z.1
theorem w_read_tree : ∀ ds h Q E, sp_read_tree ds h Q E → W_read_tree { nx := fun _ h' => Q .non h', rt := Q, xc := E } (startD ["rules", "line", "words", "climb", "at", "word"] ds) h := fun _ _ _ _ z => z.2
def W_l_amixed : GS :=
  (gSeq (gSet 2 (gOp rModD (gOp rAddD (gOp rAddD (gOp rMulD (gOp rModD (gVar 0) (gC (.int 2147483647))) (gC (.int 48271))) (gOp rMulD (gVar 1) (gC (.int 7919)))) (gC (.int 11))) (gC (.int 2147483629))))
  (gSeq (gSet 3 (gOp rModD (gOp rAddD (gOp rAddD (gOp rMulD (gVar 2) (gVar 2)) (gOp rMulD (gOp rMulD (gVar 1) (gVar 1)) (gC (.int 31)))) (gC (.int 5))) (gC (.int 2147483587))))
  (gSeq (gSet 4 (gOp rModD (gOp rAddD (gOp rAddD (gOp rMulD (gVar 3) (gVar 3)) (gVar 2)) (gVar 1)) (gC (.int 2147483563))))
  (gRet (gOp rAddD (gOp rMulD (gOp rAddD (gOp rMulD (gVar 4) (gC (.int 2147483629))) (gVar 3)) (gC (.int 2147483587))) (gVar 2))))))
def sp_l_amixed : Sp3 := fun ds h Q => ds.length = 2 ∧ W_l_amixed { nx := fun _ h' => Q .non h', rt := Q } (startD ["_law_cell", "_law_at", "_law_one", "_law_two", "_law_three"] ds) h
theorem len_l_amixed : ∀ ds h Q, sp_l_amixed ds h Q → ds.length = [("_law_cell" : Str), ("_law_at" : Str)].length := fun _ _ _ z => z.1
theorem w_l_amixed : ∀ ds h Q, sp_l_amixed ds h Q → W_l_amixed { nx := fun _ h' => Q .non h', rt := Q } (startD ["_law_cell", "_law_at", "_law_one", "_law_two", "_law_three"] ds) h := fun _ _ _ z => z.2
def W_l_aopen : GS :=
  (gRet (gMLst (gCons (gCall cList (gCons (gSl (gVar 0) gNoPart (gPart (gC (.int 60)))) gNil)) (gCons (gC (.int 0)) (gCons (gC (.int 0)) gNil)))))
def sp_l_aopen : Sp3 := fun ds h Q => ds.length = 1 ∧ W_l_aopen { nx := fun _ h' => Q .non h', rt := Q } (startD ["_law_script"] ds) h
theorem len_l_aopen : ∀ ds h Q, sp_l_aopen ds h Q → ds.length = [("_law_script" : Str)].length := fun _ _ _ z => z.1
theorem w_l_aopen : ∀ ds h Q, sp_l_aopen ds h Q → W_l_aopen { nx := fun _ h' => Q .non h', rt := Q } (startD ["_law_script"] ds) h := fun _ _ _ z => z.2
def W_l_adraw : GS :=
  (gSeq (gIfS (gTest (gOp rLtD (gOp rIxD (gVar 0) (gC (.int 2))) (gVar 1))) (gSeq (gSet 2 (gOp rIxD (gVar 0) (gC (.int 1))))
  (gSeq (gSet 3 (gOp rMulD (gVar 2) (gC (.int 101))))
  (gSeq (gIfS (gTest (gOp (rEqD3 true) (gOp rIxD (gVar 0) (gC (.int 0))) (gLst gNil))) (gSet 3 (gOp rIxD (gOp rIxD (gVar 0) (gC (.int 0))) (gOp rModD (gVar 2) (gCall cLen (gCons (gOp rIxD (gVar 0) (gC (.int 0))) gNil))))) gNext)
  (gSeq (gAsg (gOp rAddD (gVar 2) (gC (.int 1))) (ggSub (gVar 0) (gC (.int 1))))
  (gSeq (gAsg (gVar 3) (ggSub (gVar 0) (gC (.int 2))))
  (gIfS (gOrT (gTest (gOp rLtD (gVar 3) (gOp rPowD (gC (.int 10)) (gC (.int 18))))) (gTest (gOp rGeD (gVar 2) (gCall cLen (gCons (gOp rIxD (gVar 0) (gC (.int 0))) gNil))))) (gAsg (gFn sp_l_amixed (gCons (gVar 3) (gCons (gVar 2) gNil))) (ggSub (gVar 0) (gC (.int 2)))) gNext)))))) gNext)
  (gSeq (gSet 4 (gOp rModD (gOp rIxD (gVar 0) (gC (.int 2))) (gVar 1)))
  (gSeq (gAsg (gOp rFdvD (gOp rIxD (gVar 0) (gC (.int 2))) (gVar 1)) (ggSub (gVar 0) (gC (.int 2))))
  (gRet (gVar 4)))))
def sp_l_adraw : Sp3 := fun ds h Q => ds.length = 2 ∧ W_l_adraw { nx := fun _ h' => Q .non h', rt := Q } (startD ["_law_feed", "_law_often", "_law_at", "_law_cell", "_law_drawn"] ds) h
theorem len_l_adraw : ∀ ds h Q, sp_l_adraw ds h Q → ds.length = [("_law_feed" : Str), ("_law_often" : Str)].length := fun _ _ _ z => z.1
theorem w_l_adraw : ∀ ds h Q, sp_l_adraw ds h Q → W_l_adraw { nx := fun _ h' => Q .non h', rt := Q } (startD ["_law_feed", "_law_often", "_law_at", "_law_cell", "_law_drawn"] ds) h := fun _ _ _ z => z.2
def W_l_ais_name : GS :=
  (gRet (gAnd (gOp (rInD false) (gSl (gVar 0) gNoPart (gPart (gC (.int 1)))) (gC (.str "ABCDEFGHIJKLMNOPQRSTUVWXYZ"))) (gOp (rEqD3 true) (gVar 0) (gC (.str "")))))
def sp_l_ais_name : Sp3 := fun ds h Q => ds.length = 1 ∧ W_l_ais_name { nx := fun _ h' => Q .non h', rt := Q } (startD ["_law_word"] ds) h
theorem len_l_ais_name : ∀ ds h Q, sp_l_ais_name ds h Q → ds.length = [("_law_word" : Str)].length := fun _ _ _ z => z.1
theorem w_l_ais_name : ∀ ds h Q, sp_l_ais_name ds h Q → W_l_ais_name { nx := fun _ h' => Q .non h', rt := Q } (startD ["_law_word"] ds) h := fun _ _ _ z => z.2
def W_l_akind : GS :=
  (gSeq (gSet 1 (gLst (gCons (gCall (cIsiE tbl) (gCons (gVar 0) (gCons (gC (.obj "NoPiece")) gNil))) (gCons (gCall (cIsiE tbl) (gCons (gVar 0) (gCons (gC (.obj "Endless")) gNil))) gNil))))
  (gSeq (gSet 1 (gOp rAddD (gVar 1) (gLst (gCons (gCall (cIsiE tbl) (gCons (gVar 0) (gCons (gC (.obj "NoStretch")) gNil))) (gCons (gCall (cIsiE tbl) (gCons (gVar 0) (gCons (gC (.obj "NoPlace")) gNil))) gNil)))))
  (gSeq (gSet 1 (gOp rAddD (gVar 1) (gLst (gCons (gCall (cIsiE tbl) (gCons (gVar 0) (gCons (gC (.obj "NoCut")) gNil))) (gCons (gCall (cIsiE tbl) (gCons (gVar 0) (gCons (gC (.obj "NoSign")) gNil))) gNil)))))
  (gSeq (gSet 1 (gOp rAddD (gVar 1) (gLst (gCons (gCall (cIsiE tbl) (gCons (gVar 0) (gCons (gC (.obj "TooLong")) gNil))) (gCons (gCall (cIsiE tbl) (gCons (gVar 0) (gCons (gC (.obj "NoBatch")) gNil))) gNil)))))
  (gSeq (gSet 1 (gOp rAddD (gVar 1) (gLst (gCons (gCall (cIsiE tbl) (gCons (gVar 0) (gCons (gC (.obj "NoBack")) gNil))) (gCons (gCall (cIsiE tbl) (gCons (gVar 0) (gCons (gC (.obj "NoForbid")) gNil))) (gCons (gCall (cIsiE tbl) (gCons (gVar 0) (gCons (gC (.obj "NoMark")) gNil))) gNil))))))
  (gSeq (gSet 1 (gOp rAddD (gVar 1) (gLst (gCons (gCall (cIsiE tbl) (gCons (gVar 0) (gCons (gC (.obj "NoRow")) gNil))) (gCons (gCall (cIsiE tbl) (gCons (gVar 0) (gCons (gC (.obj "NoText")) gNil))) gNil)))))
  (gSeq (gIfS (gOrT (gTest (gOp (rEqD3 true) (gBM "list" mCountB (gVar 1) (gCons (gC (.bl true)) gNil)) (gC (.int 1)))) (gNotT (gTest (gCall (cIsiE tbl) (gCons (gVar 0) (gCons (gC (.ty "ValueError")) gNil)))))) (gRet (gC (.str "odd"))) gNext)
  (gSeq (gSet 2 (gLst (gCons (gC (.str "piece")) (gCons (gC (.str "endless")) (gCons (gC (.str "stretch")) (gCons (gC (.str "place")) (gCons (gC (.str "cut")) (gCons (gC (.str "sign")) (gCons (gC (.str "long")) (gCons (gC (.str "batch")) gNil))))))))))
  (gRet (gOp rIxD (gOp rAddD (gVar 2) (gLst (gCons (gC (.str "back")) (gCons (gC (.str "forbid")) (gCons (gC (.str "mark")) (gCons (gC (.str "row")) (gCons (gC (.str "text")) gNil))))))) (gBM "list" mIndexB (gVar 1) (gCons (gC (.bl true)) gNil))))))))))))
def sp_l_akind : Sp3 := fun ds h Q => ds.length = 1 ∧ W_l_akind { nx := fun _ h' => Q .non h', rt := Q } (startD ["_law_caught", "_law_kinds", "_law_words"] ds) h
theorem len_l_akind : ∀ ds h Q, sp_l_akind ds h Q → ds.length = [("_law_caught" : Str)].length := fun _ _ _ z => z.1
theorem w_l_akind : ∀ ds h Q, sp_l_akind ds h Q → W_l_akind { nx := fun _ h' => Q .non h', rt := Q } (startD ["_law_caught", "_law_kinds", "_law_words"] ds) h := fun _ _ _ z => z.2
def W_l_aword : GS :=
  (gSeq (gSet 4 (gOp rIxD (gVar 1) (gFn sp_l_adraw (gCons (gVar 0) (gCons (gCall cLen (gCons (gVar 1) gNil)) gNil)))))
  (gSeq (gFor (gRng1 (gCons (gOp rIxD (gLst (gCons (gC (.int 0)) (gCons (gC (.int 0)) (gCons (gC (.int 1)) (gCons (gC (.int 4)) gNil))))) (gFn sp_l_adraw (gCons (gVar 0) (gCons (gC (.int 4)) gNil)))) gNil)) (ggName 5)
  (gSet 4 (gOp rAddD (gVar 4) (gOp rIxD (gVar 2) (gFn sp_l_adraw (gCons (gVar 0) (gCons (gCall cLen (gCons (gVar 2) gNil)) gNil)))))))
  (gSeq (gSet 6 (gFn sp_l_adraw (gCons (gVar 0) (gCons (gC (.int 26)) gNil))))
  (gRet (gLc [5] (gRng1 (gCons (gVar 3) gNil)) (ggName 5) gYes (gOp rAddD (gVar 4) (gOp rIxD (gC (.str "abcdefghijklmnopqrstuvwxyz")) (gOp rModD (gOp rAddD (gVar 6) (gOp rMulD (gC (.int 7)) (gVar 5))) (gC (.int 26))))))))))
def sp_l_aword : Sp3 := fun ds h Q => ds.length = 4 ∧ W_l_aword { nx := fun _ h' => Q .non h', rt := Q } (startD ["_law_feed", "_law_heads", "_law_others", "_law_often", "_law_stem", "_law_k", "_law_first"] ds) h
theorem len_l_aword : ∀ ds h Q, sp_l_aword ds h Q → ds.length = [("_law_feed" : Str), ("_law_heads" : Str), ("_law_others" : Str), ("_law_often" : Str)].length := fun _ _ _ z => z.1
theorem w_l_aword : ∀ ds h Q, sp_l_aword ds h Q → W_l_aword { nx := fun _ h' => Q .non h', rt := Q } (startD ["_law_feed", "_law_heads", "_law_others", "_law_often", "_law_stem", "_law_k", "_law_first"] ds) h := fun _ _ _ z => z.2
def W_l_aall_signs : GS :=
  (gSeq (gSet 2 (gC (.str "abcdefghijklmnopqrstuvwxyz")))
  (gSeq (gSet 3 (gFn sp_l_aword (gCons (gVar 0) (gCons (gVar 2) (gCons (gVar 2) (gCons (gVar 1) gNil))))))
  (gSeq (gIfS (gTest (gOp (rEqD3 false) (gFn sp_l_adraw (gCons (gVar 0) (gCons (gC (.int 2)) gNil))) (gC (.int 0)))) (gSeq (gSet 4 (gFn sp_l_adraw (gCons (gVar 0) (gCons (gC (.int 8)) gNil))))
  (gSeq (gSet 5 (gC (.str "+-*/()<>")))
  (gSet 3 (gOp rAddD (gSl (gLc [6] (gRng1 (gCons (gVar 1) gNil)) (ggName 6) gYes (gOp rIxD (gOp rAddD (gVar 5) (gVar 5)) (gOp rAddD (gVar 4) (gVar 6)))) gNoPart (gPart (gOp rFdvD (gVar 1) (gC (.int 2))))) (gSl (gVar 3) (gPart (gOp rFdvD (gVar 1) (gC (.int 2)))) gNoPart))))) gNext)
  (gRet (gVar 3)))))
def sp_l_aall_signs : Sp3 := fun ds h Q => ds.length = 2 ∧ W_l_aall_signs { nx := fun _ h' => Q .non h', rt := Q } (startD ["_law_feed", "_law_often", "_law_small", "_law_some", "_law_turn", "_law_alone", "_law_k"] ds) h
theorem len_l_aall_signs : ∀ ds h Q, sp_l_aall_signs ds h Q → ds.length = [("_law_feed" : Str), ("_law_often" : Str)].length := fun _ _ _ z => z.1
theorem w_l_aall_signs : ∀ ds h Q, sp_l_aall_signs ds h Q → W_l_aall_signs { nx := fun _ h' => Q .non h', rt := Q } (startD ["_law_feed", "_law_often", "_law_small", "_law_some", "_law_turn", "_law_alone", "_law_k"] ds) h := fun _ _ _ z => z.2
def W_l_awide_rules : GS :=
  (gSeq (gSet 1 (gC (.str "ABCDEFGHIJKLMNOPQRSTUVWXYZ")))
  (gSeq (gSet 2 (gC (.str "abcdefghijklmnopqrstuvwxyz0123456789")))
  (gSeq (gSet 3 (gFn sp_l_aword (gCons (gVar 0) (gCons (gVar 1) (gCons (gVar 2) (gCons (gOp rAddD (gC (.int 1)) (gFn sp_l_adraw (gCons (gVar 0) (gCons (gC (.int 6)) gNil)))) gNil))))))
  (gSeq (gSet 4 (gFn sp_l_aall_signs (gCons (gVar 0) (gCons (gOp rAddD (gC (.int 1)) (gFn sp_l_adraw (gCons (gVar 0) (gCons (gC (.int 6)) gNil)))) gNil))))
  (gSeq (gSet 5 (gMLst gNil))
  (gSeq (gFor (gRng1 (gCons (gOp rAddD (gC (.int 1)) (gFn sp_l_adraw (gCons (gVar 0) (gCons (gOp rIxD (gLst (gCons (gC (.int 4)) (gCons (gC (.int 16)) gNil))) (gFn sp_l_adraw (gCons (gVar 0) (gCons (gC (.int 2)) gNil)))) gNil)))) gNil)) (ggName 6)
  (gSeq (gSet 7 (gOp rIxD (gVar 3) (gFn sp_l_adraw (gCons (gVar 0) (gCons (gCall cLen (gCons (gVar 3) gNil)) gNil)))))
  (gSeq (gSet 8 (gTup gNil))
  (gSeq (gFor (gRng1 (gCons (gFn sp_l_adraw (gCons (gVar 0) (gCons (gC (.int 5)) gNil))) gNil)) (ggName 9)
  (gSeq (gSet 10 (gOp rIxD (gLst (gCons (gVar 3) (gCons (gVar 4) (gCons (gVar 4) gNil)))) (gFn sp_l_adraw (gCons (gVar 0) (gCons (gC (.int 3)) gNil)))))
  (gSet 8 (gOp rAddD (gVar 8) (gTup (gCons (gOp rIxD (gVar 10) (gFn sp_l_adraw (gCons (gVar 0) (gCons (gCall cLen (gCons (gVar 10) gNil)) gNil)))) gNil))))))
  (gIfS (gTest (gOp (rInD true) (gTup (gCons (gVar 7) (gCons (gVar 8) gNil))) (gVar 5))) (gDrop (gBM "list" mAppend (gVar 5) (gCons (gTup (gCons (gVar 7) (gCons (gVar 8) gNil))) gNil))) gNext)))))
  (gRet (gTup (gCons (gOp rIxD (gVar 3) (gC (.int 0))) (gCons (gCall cTuple (gCons (gVar 5) gNil)) gNil))))))))))
def sp_l_awide_rules : Sp3 := fun ds h Q => ds.length = 1 ∧ W_l_awide_rules { nx := fun _ h' => Q .non h', rt := Q } (startD ["_law_feed", "_law_great", "_law_small", "_law_names", "_law_signs", "_law_rows", "_law_turn", "_law_head", "_law_body", "_law_k", "_law_some"] ds) h
theorem len_l_awide_rules : ∀ ds h Q, sp_l_awide_rules ds h Q → ds.length = [("_law_feed" : Str)].length := fun _ _ _ z => z.1
theorem w_l_awide_rules : ∀ ds h Q, sp_l_awide_rules ds h Q → W_l_awide_rules { nx := fun _ h' => Q .non h', rt := Q } (startD ["_law_feed", "_law_great", "_law_small", "_law_names", "_law_signs", "_law_rows", "_law_turn", "_law_head", "_law_body", "_law_k", "_law_some"] ds) h := fun _ _ _ z => z.2
def W_l_atree_words (rec : Sp3) : GS :=
  (gSeq (gIfS (gTest (gCall cIsi (gCons (gVar 0) (gCons (gC (.ty "str")) gNil)))) (gRet (gLst (gCons (gVar 0) gNil))) gNext)
  (gSeq (gSet 1 (gLst (gCons (gC (.str "[")) (gCons (gCall cStrI (gCons (gOp rIxD (gVar 0) (gC (.int 0))) gNil)) gNil))))
  (gSeq (gFor (gIt (gOp rIxD (gVar 0) (gC (.int 1)))) (ggName 2)
  (gSet 1 (gOp rAddD (gVar 1) (gFn rec (gCons (gVar 2) gNil)))))
  (gRet (gOp rAddD (gVar 1) (gLst (gCons (gC (.str "]")) gNil)))))))
def sp_l_atree_words : Nat → Sp3
  | 0 => fun _ _ _ => False
  | n + 1 => fun ds h Q => ds.length = 1 ∧ W_l_atree_words (sp_l_atree_words n) { nx := fun _ h' => Q .non h', rt := Q } (startD ["_law_tree", "_law_found", "_law_kid"] ds) h
def W_l_aheights : GS :=
  (gSeq (gSet 1 gDNewK)
  (gSeq (gFor (gRng1 (gCons (gCall cLen (gCons (gOp rIxD (gVar 0) (gC (.int 1))) gNil)) gNil)) (ggName 2)
  (gFor (gIt (gOp rIxD (gVar 0) (gC (.int 1)))) (ggTup 2 (ggCons (ggName 3) (ggCons (ggName 4) ggNil)))
  (gSeq (gSet 5 (gLc [7] (gIt (gVar 4)) (ggName 7) (gTest (gFn sp_l_ais_name (gCons (gVar 7) gNil))) (gVar 7)))
  (gIfS (gTest (gOp (rEqD3 false) (gCall cLen (gCons (gLc [7] (gIt (gVar 5)) (ggName 7) (gTest (gDIn true (gVar 7) (gVar 1))) (gVar 7)) gNil)) (gC (.int 0)))) (gSeq (gSet 6 (gOp rAddD (gC (.int 1)) (gCall cMaxL (gCons (gOp rAddD (gLc [7] (gIt (gVar 5)) (ggName 7) gYes (gDGet (gVar 1) (gVar 7))) (gLst (gCons (gC (.int 0)) gNil))) gNil))))
  (gDPut (gVar 1) (gVar 3) (gCall cMin (gCons (gDGet2 (gVar 1) (gVar 3) (gVar 6)) (gCons (gVar 6) gNil))))) gNext))))
  (gRet (gVar 1))))
def sp_l_aheights : Sp3 := fun ds h Q => ds.length = 1 ∧ W_l_aheights { nx := fun _ h' => Q .non h', rt := Q } (startD ["_law_rules", "_law_known", "_law_turn", "_law_head", "_law_body", "_law_names", "_law_here", "_law_word"] ds) h
theorem len_l_aheights : ∀ ds h Q, sp_l_aheights ds h Q → ds.length = [("_law_rules" : Str)].length := fun _ _ _ z => z.1
theorem w_l_aheights : ∀ ds h Q, sp_l_aheights ds h Q → W_l_aheights { nx := fun _ h' => Q .non h', rt := Q } (startD ["_law_rules", "_law_known", "_law_turn", "_law_head", "_law_body", "_law_names", "_law_here", "_law_word"] ds) h := fun _ _ _ z => z.2
def W_l_agood : GS :=
  (gSeq (gSet 3 (gMLst gNil))
  (gSeq (gFor (gEnum (gCons (gOp rIxD (gVar 0) (gC (.int 1))) gNil)) (ggTup 2 (ggCons (ggName 4) (ggCons (ggName 5) ggNil)))
  (gSeq (gSet 6 (gLc [7] (gIt (gOp rIxD (gVar 5) (gC (.int 1)))) (ggName 7) (gAndT (gTest (gFn sp_l_ais_name (gCons (gVar 7) gNil))) (gTest (gDIn true (gVar 7) (gVar 1)))) (gVar 7)))
  (gIfS (gAndT (gTest (gOp (rEqD3 false) (gVar 6) (gLst gNil))) (gTest (gOp (rInD false) (gVar 2) (gTup (gCons (gC .non) (gCons (gOp rIxD (gVar 5) (gC (.int 0))) gNil)))))) (gDrop (gBM "list" mAppend (gVar 3) (gCons (gVar 4) gNil))) gNext)))
  (gRet (gFrz (gVar 3)))))
def sp_l_agood : Sp3 := fun ds h Q => ds.length = 3 ∧ W_l_agood { nx := fun _ h' => Q .non h', rt := Q } (startD ["_law_rules", "_law_heights", "_law_head", "_law_found", "_law_number", "_law_row", "_law_names", "_law_word"] ds) h
theorem len_l_agood : ∀ ds h Q, sp_l_agood ds h Q → ds.length = [("_law_rules" : Str), ("_law_heights" : Str), ("_law_head" : Str)].length := fun _ _ _ z => z.1
theorem w_l_agood : ∀ ds h Q, sp_l_agood ds h Q → W_l_agood { nx := fun _ h' => Q .non h', rt := Q } (startD ["_law_rules", "_law_heights", "_law_head", "_law_found", "_law_number", "_law_row", "_law_names", "_law_word"] ds) h := fun _ _ _ z => z.2
def W_l_ahigh : GS :=
  (gRet (gOp rAddD (gC (.int 1)) (gCall cMaxL (gCons (gOp rAddD (gLc [3] (gIt (gOp rIxD (gOp rIxD (gOp rIxD (gVar 0) (gC (.int 1))) (gVar 2)) (gC (.int 1)))) (ggName 3) (gTest (gFn sp_l_ais_name (gCons (gVar 3) gNil))) (gDGet (gVar 1) (gVar 3))) (gLst (gCons (gC (.int 0)) gNil))) gNil))))
def sp_l_ahigh : Sp3 := fun ds h Q => ds.length = 3 ∧ W_l_ahigh { nx := fun _ h' => Q .non h', rt := Q } (startD ["_law_rules", "_law_heights", "_law_number", "_law_word"] ds) h
theorem len_l_ahigh : ∀ ds h Q, sp_l_ahigh ds h Q → ds.length = [("_law_rules" : Str), ("_law_heights" : Str), ("_law_number" : Str)].length := fun _ _ _ z => z.1
theorem w_l_ahigh : ∀ ds h Q, sp_l_ahigh ds h Q → W_l_ahigh { nx := fun _ h' => Q .non h', rt := Q } (startD ["_law_rules", "_law_heights", "_law_number", "_law_word"] ds) h := fun _ _ _ z => z.2
def W_l_atree (rec : Sp3) : GS :=
  (gSeq (gSet 5 (gFn sp_l_agood (gCons (gVar 1) (gCons (gVar 2) (gCons (gVar 3) gNil)))))
  (gSeq (gSet 6 (gLc [9] (gIt (gVar 5)) (ggName 9) (gTest (gOp rLtD (gCall cLen (gCons (gLc [11] (gIt (gOp rIxD (gOp rIxD (gOp rIxD (gVar 1) (gC (.int 1))) (gVar 9)) (gC (.int 1)))) (ggName 11) (gTest (gFn sp_l_ais_name (gCons (gVar 11) gNil))) (gVar 11)) gNil)) (gC (.int 2)))) (gVar 9)))
  (gSeq (gIfS (gAndT (gTest (gOp rGtD (gVar 4) (gC (.int 3)))) (gTest (gOp (rEqD3 true) (gVar 6) (gLst gNil)))) (gSet 5 (gVar 6)) gNext)
  (gSeq (gSet 4 (gIf (gTest (gOp (rEqD3 true) (gVar 6) (gLst gNil))) (gVar 4) (gCall cMin (gCons (gVar 4) (gCons (gC (.int 3)) gNil)))))
  (gSeq (gSet 7 (gLc [9] (gIt (gVar 5)) (ggName 9) (gTest (gOp rLeD (gFn sp_l_ahigh (gCons (gVar 1) (gCons (gVar 2) (gCons (gVar 9) gNil)))) (gVar 4))) (gVar 9)))
  (gSeq (gIfS (gTest (gOp (rEqD3 false) (gVar 7) (gLst gNil))) (gSeq (gSet 8 (gCall cMin2 (gCons (gLc [9] (gIt (gVar 5)) (ggName 9) gYes (gFn sp_l_ahigh (gCons (gVar 1) (gCons (gVar 2) (gCons (gVar 9) gNil))))) gNil)))
  (gSet 7 (gLc [9] (gIt (gVar 5)) (ggName 9) (gTest (gOp (rEqD3 false) (gFn sp_l_ahigh (gCons (gVar 1) (gCons (gVar 2) (gCons (gVar 9) gNil)))) (gVar 8))) (gVar 9)))) gNext)
  (gSeq (gSet 9 (gOp rIxD (gVar 7) (gFn sp_l_adraw (gCons (gVar 0) (gCons (gCall cLen (gCons (gVar 7) gNil)) gNil)))))
  (gSeq (gSet 10 (gMLst gNil))
  (gSeq (gFor (gIt (gOp rIxD (gOp rIxD (gOp rIxD (gVar 1) (gC (.int 1))) (gVar 9)) (gC (.int 1)))) (ggName 11)
  (gDrop (gBM "list" mAppend (gVar 10) (gCons (gIf (gTest (gFn sp_l_ais_name (gCons (gVar 11) gNil))) (gFn rec (gCons (gVar 0) (gCons (gVar 1) (gCons (gVar 2) (gCons (gVar 11) (gCons (gOp rSubD (gVar 4) (gC (.int 1))) gNil)))))) (gVar 11)) gNil))))
  (gRet (gTup (gCons (gVar 9) (gCons (gCall cTuple (gCons (gVar 10) gNil)) gNil)))))))))))))
def sp_l_atree : Nat → Sp3
  | 0 => fun _ _ _ => False
  | n + 1 => fun ds h Q => ds.length = 5 ∧ W_l_atree (sp_l_atree n) { nx := fun _ h' => Q .non h', rt := Q } (startD ["_law_feed", "_law_rules", "_law_heights", "_law_head", "_law_left", "_law_some", "_law_slim", "_law_low", "_law_least", "_law_number", "_law_kids", "_law_word"] ds) h
def W_l_asame (rec : Sp3) : GS :=
  (gSeq (gIfS (gTest (gOp (rIsD false) (gVar 1) (gC .non))) (gRet (gOp (rIsD false) (gVar 0) (gC .non))) gNext)
  (gSeq (gIfS (gOrT (gTest (gCall cIsi (gCons (gVar 1) (gCons (gC (.ty "bool")) gNil)))) (gTest (gCall cIsi (gCons (gVar 0) (gCons (gC (.ty "bool")) gNil))))) (gRet (gAnd (gCall cIsi (gCons (gVar 1) (gCons (gC (.ty "bool")) gNil))) (gAnd (gCall cIsi (gCons (gVar 0) (gCons (gC (.ty "bool")) gNil))) (gOp (rEqD3 false) (gVar 0) (gVar 1))))) gNext)
  (gSeq (gIfS (gTest (gCall cIsi (gCons (gVar 1) (gCons (gC (.ty "int")) gNil)))) (gRet (gAnd (gCall cIsi (gCons (gVar 0) (gCons (gC (.ty "int")) gNil))) (gOp (rEqD3 false) (gVar 0) (gVar 1)))) gNext)
  (gSeq (gIfS (gTest (gCall cIsi (gCons (gVar 1) (gCons (gC (.ty "str")) gNil)))) (gRet (gAnd (gCall cIsi (gCons (gVar 0) (gCons (gC (.ty "str")) gNil))) (gOp (rEqD3 false) (gVar 0) (gVar 1)))) gNext)
  (gSeq (gIfS (gOrT (gTest (gOp (rEqD3 true) (gCall cIsi (gCons (gVar 1) (gCons (gC (.ty "tuple")) gNil))) (gCall cIsi (gCons (gVar 0) (gCons (gC (.ty "tuple")) gNil))))) (gTest (gOp (rEqD3 true) (gCall cIsi (gCons (gVar 1) (gCons (gC (.ty "list")) gNil))) (gCall cIsi (gCons (gVar 0) (gCons (gC (.ty "list")) gNil)))))) (gRet (gC (.bl false))) gNext)
  (gRet (gAnd (gOp (rEqD3 false) (gCall cLen (gCons (gVar 0) gNil)) (gCall cLen (gCons (gVar 1) gNil))) (gCall cAll (gCons (gLc [2, 3] (gZip (gCons (gVar 0) (gCons (gVar 1) gNil))) (ggTup 2 (ggCons (ggName 2) (ggCons (ggName 3) ggNil))) gYes (gFn rec (gCons (gVar 2) (gCons (gVar 3) gNil)))) gNil)))))))))
def sp_l_asame : Nat → Sp3
  | 0 => fun _ _ _ => False
  | n + 1 => fun ds h Q => ds.length = 2 ∧ W_l_asame (sp_l_asame n) { nx := fun _ h' => Q .non h', rt := Q } (startD ["_law_found", "_law_due", "_law_one", "_law_other"] ds) h
def heldS : Str → Option Sp4 := fun n => if n = "read_tree" then some sp_read_tree else none
def W_l_anumbered : GS :=
  (gSeq (gSet 2 (gC .non))
  (gSeq (gSet 3 (gC .non))
  (gSeq (gTry tbl "ReadError" 4 3 (gIfX (gTest (gOp (rEqD3 false) (gCall cLen (gCons (gVar 1) gNil)) (gC (.int 1)))) (gCallL 0 heldS (gCons (gOp rIxD (gVar 1) (gC (.int 0))) gNil)) (gCallL 0 heldS (gCons (gOp rIxD (gVar 1) (gC (.int 0))) (gCons (gOp rIxD (gVar 1) (gC (.int 1))) gNil))))
  (gSet 2 (gVar 4)))
  (gSeq (gIfS (gTest (gOp (rIsD false) (gVar 2) (gC .non))) (gRet (gTup (gCons (gC (.str "told")) (gCons (gVar 3) gNil)))) gNext)
  (gSeq (gIfS (gTest (gOp (rEqD3 true) (gFn sp_l_akind (gCons (gVar 2) gNil)) (gC (.str "text")))) (gRet (gTup (gCons (gC (.str "odd")) (gCons (gC .non) gNil)))) gNext)
  (gRet (gTup (gCons (gC (.str "no")) (gCons (gAt tbl "at" (gVar 2)) gNil)))))))))
def sp_l_anumbered : Sp3 := fun ds h Q => ds.length = 2 ∧ W_l_anumbered { nx := fun _ h' => Q .non h', rt := Q } (startD ["_law_act", "_law_some", "_law_caught", "_law_told", "e"] ds) h
theorem len_l_anumbered : ∀ ds h Q, sp_l_anumbered ds h Q → ds.length = [("_law_act" : Str), ("_law_some" : Str)].length := fun _ _ _ z => z.1
theorem w_l_anumbered : ∀ ds h Q, sp_l_anumbered ds h Q → W_l_anumbered { nx := fun _ h' => Q .non h', rt := Q } (startD ["_law_act", "_law_some", "_law_caught", "_law_told", "e"] ds) h := fun _ _ _ z => z.2
def W_l_ais_any_name : GS :=
  (gSeq (gIfS (gOrT (gNotT (gTest (gChain rLtD rLtD (gC (.int 0)) (gCall cLen (gCons (gVar 0) gNil)) (gC (.int 7))))) (gTest (gOp (rInD true) (gOp rIxD (gVar 0) (gC (.int 0))) (gC (.str "ABCDEFGHIJKLMNOPQRSTUVWXYZ"))))) (gRet (gC (.bl false))) gNext)
  (gRet (gOp (rEqD3 false) (gCall cLen (gCons (gLc [1] (gIt (gSl (gVar 0) (gPart (gC (.int 1))) gNoPart)) (ggName 1) (gTest (gOp (rInD true) (gVar 1) (gC (.str "abcdefghijklmnopqrstuvwxyz0123456789")))) (gVar 1)) gNil)) (gC (.int 0)))))
def sp_l_ais_any_name : Sp3 := fun ds h Q => ds.length = 1 ∧ W_l_ais_any_name { nx := fun _ h' => Q .non h', rt := Q } (startD ["_law_word", "_law_letter"] ds) h
theorem len_l_ais_any_name : ∀ ds h Q, sp_l_ais_any_name ds h Q → ds.length = [("_law_word" : Str)].length := fun _ _ _ z => z.1
theorem w_l_ais_any_name : ∀ ds h Q, sp_l_ais_any_name ds h Q → W_l_ais_any_name { nx := fun _ h' => Q .non h', rt := Q } (startD ["_law_word", "_law_letter"] ds) h := fun _ _ _ z => z.2
def W_l_aodd : GS :=
  (gSeq (gSet 2 (gC (.str "- . : | = [ ] 0 1 00 01 16 -1 S A a b + ( ab S1 s1 aB Abcdef Abcdefg abcdef abcdefg")))
  (gSeq (gSet 2 (gBM "str" mSplit (gOp rAddD (gVar 2) (gC (.str " ++ +a Z9 9Z z A_ a. +- () <> AB SA1 a-b ~ # +0 +1 -0 1_0"))) (gCons (gC (.str " ")) gNil)))
  (gSeq (gSet 2 (gOp rAddD (gOp rAddD (gVar 2) (gLst (gCons (gC (.str "")) (gCons (gC (.str "a\t")) (gCons (gC (.str "\n")) (gCons (gOp rMulS (gC (.str "9")) (gC (.int 40))) (gCons (gC (.str "|=")) (gCons (gC (.str "S:")) (gCons (gC (.str "0\t")) (gCons (gC (.str "\n0")) (gCons (gC (.str "[\t")) (gCons (gC (.str ":\n")) (gCons (gC (.str "|\t")) gNil))))))))))))) (gVar 1)))
  (gRet (gOp rIxD (gVar 2) (gFn sp_l_adraw (gCons (gVar 0) (gCons (gCall cLen (gCons (gVar 2) gNil)) gNil))))))))
def sp_l_aodd : Sp3 := fun ds h Q => ds.length = 2 ∧ W_l_aodd { nx := fun _ h' => Q .non h', rt := Q } (startD ["_law_feed", "_law_words", "_law_some"] ds) h
theorem len_l_aodd : ∀ ds h Q, sp_l_aodd ds h Q → ds.length = [("_law_feed" : Str), ("_law_words" : Str)].length := fun _ _ _ z => z.1
theorem w_l_aodd : ∀ ds h Q, sp_l_aodd ds h Q → W_l_aodd { nx := fun _ h' => Q .non h', rt := Q } (startD ["_law_feed", "_law_words", "_law_some"] ds) h := fun _ _ _ z => z.2
def W_l_asmeared : GS :=
  (gSeq (gSet 2 (gFn sp_l_adraw (gCons (gVar 0) (gCons (gOp rAddD (gCall cLen (gCons (gVar 1) gNil)) (gC (.int 1))) gNil))))
  (gRet (gOp rAddD (gOp rAddD (gSl (gVar 1) gNoPart (gPart (gVar 2))) (gOp rIxD (gLst (gCons (gC (.str "\n")) (gCons (gC (.str "\t")) (gCons (gC (.str "\n")) (gCons (gC (.str "_")) (gCons (gC (.str "+")) (gCons (gC (.str "0")) gNil))))))) (gFn sp_l_adraw (gCons (gVar 0) (gCons (gC (.int 6)) gNil))))) (gSl (gVar 1) (gPart (gVar 2)) gNoPart))))
def sp_l_asmeared : Sp3 := fun ds h Q => ds.length = 2 ∧ W_l_asmeared { nx := fun _ h' => Q .non h', rt := Q } (startD ["_law_feed", "_law_word", "_law_at"] ds) h
theorem len_l_asmeared : ∀ ds h Q, sp_l_asmeared ds h Q → ds.length = [("_law_feed" : Str), ("_law_word" : Str)].length := fun _ _ _ z => z.1
theorem w_l_asmeared : ∀ ds h Q, sp_l_asmeared ds h Q → W_l_asmeared { nx := fun _ h' => Q .non h', rt := Q } (startD ["_law_feed", "_law_word", "_law_at"] ds) h := fun _ _ _ z => z.2
def W_l_abent : GS :=
  (gSeq (gSet 2 (gFn sp_l_adraw (gCons (gVar 0) (gCons (gOp rAddD (gCall cLen (gCons (gVar 1) gNil)) (gC (.int 1))) gNil))))
  (gSeq (gSet 3 (gFn sp_l_adraw (gCons (gVar 0) (gCons (gC (.int 9)) gNil))))
  (gSeq (gIfS (gTest (gOp rLtD (gVar 3) (gC (.int 2)))) (gRet (gOp rAddD (gOp rAddD (gSl (gVar 1) gNoPart (gPart (gVar 2))) (gLst (gCons (gFn sp_l_aodd (gCons (gVar 0) (gCons (gVar 1) gNil))) gNil))) (gSl (gVar 1) (gPart (gOp rAddD (gVar 2) (gC (.int 1)))) gNoPart))) gNext)
  (gSeq (gIfS (gTest (gOp (rEqD3 false) (gVar 3) (gC (.int 2)))) (gRet (gOp rAddD (gSl (gVar 1) gNoPart (gPart (gVar 2))) (gSl (gVar 1) (gPart (gOp rAddD (gVar 2) (gC (.int 1)))) gNoPart))) gNext)
  (gSeq (gIfS (gTest (gOp rLtD (gVar 3) (gC (.int 5)))) (gRet (gOp rAddD (gOp rAddD (gSl (gVar 1) gNoPart (gPart (gVar 2))) (gLst (gCons (gFn sp_l_aodd (gCons (gVar 0) (gCons (gVar 1) gNil))) gNil))) (gSl (gVar 1) (gPart (gVar 2)) gNoPart))) gNext)
  (gSeq (gIfS (gTest (gOp (rEqD3 false) (gVar 3) (gC (.int 5)))) (gSeq (gSet 4 (gFn sp_l_adraw (gCons (gVar 0) (gCons (gOp rAddD (gCall cLen (gCons (gVar 1) gNil)) (gC (.int 1))) gNil))))
  (gRet (gOp rAddD (gOp rAddD (gSl (gVar 1) gNoPart (gPart (gVar 2))) (gSl (gVar 1) (gPart (gVar 4)) (gPart (gOp rAddD (gVar 4) (gC (.int 3)))))) (gSl (gVar 1) (gPart (gVar 2)) gNoPart)))) gNext)
  (gSeq (gIfS (gTest (gOp (rEqD3 false) (gVar 3) (gC (.int 6)))) (gRet (gSl (gVar 1) gNoPart (gPart (gCall cMax (gCons (gC (.int 1)) (gCons (gVar 2) gNil)))))) gNext)
  (gSeq (gSet 2 (gOp rIxD (gLst (gCons (gCall cMax (gCons (gC (.int 0)) (gCons (gOp rSubD (gVar 2) (gC (.int 1))) gNil))) (gCons (gCall cMax (gCons (gC (.int 0)) (gCons (gOp rSubD (gCall cLen (gCons (gVar 1) gNil)) (gC (.int 1))) gNil))) gNil))) (gOp rSubD (gVar 3) (gC (.int 7)))))
  (gRet (gOp rAddD (gOp rAddD (gSl (gVar 1) gNoPart (gPart (gVar 2))) (gLc [5] (gIt (gSl (gVar 1) (gPart (gVar 2)) (gPart (gOp rAddD (gVar 2) (gC (.int 1)))))) (ggName 5) gYes (gFn sp_l_asmeared (gCons (gVar 0) (gCons (gVar 5) gNil))))) (gSl (gVar 1) (gPart (gOp rAddD (gVar 2) (gC (.int 1)))) gNoPart)))))))))))
def sp_l_abent : Sp3 := fun ds h Q => ds.length = 2 ∧ W_l_abent { nx := fun _ h' => Q .non h', rt := Q } (startD ["_law_feed", "_law_words", "_law_at", "_law_way", "_law_other", "_law_word"] ds) h
theorem len_l_abent : ∀ ds h Q, sp_l_abent ds h Q → ds.length = [("_law_feed" : Str), ("_law_words" : Str)].length := fun _ _ _ z => z.1
theorem w_l_abent : ∀ ds h Q, sp_l_abent ds h Q → W_l_abent { nx := fun _ h' => Q .non h', rt := Q } (startD ["_law_feed", "_law_words", "_law_at", "_law_way", "_law_other", "_law_word"] ds) h := fun _ _ _ z => z.2
def W_l_adue : GS :=
  (gSeq (gSet 3 (gMLst (gCons (gTup (gCons (gC (.str "knot")) (gCons (gC .non) gNil))) gNil)))
  (gSeq (gFor (gRng1 (gCons (gCall cLen (gCons (gVar 2) gNil)) gNil)) (ggName 4)
  (gSeq (gIfS (gTest (gOp (rEqR false) (gVar 3) (gLst gNil))) (gRet (gVar 4)) gNext)
  (gSeq (gAsg (gBM0 "list" mPop (gVar 3)) (ggTup 2 (ggCons (ggName 5) (ggCons (ggName 6) ggNil))))
  (gIfS (gTest (gOp (rEqD3 false) (gVar 5) (gC (.str "knot")))) (gSeq (gIfS (gOrT (gTest (gOp (rEqD3 true) (gOp rIxD (gVar 2) (gVar 4)) (gC (.str "[")))) (gTest (gOp (rEqD3 false) (gFn sp_l_agood (gCons (gVar 0) (gCons (gVar 1) (gCons (gVar 6) gNil)))) (gLst gNil)))) (gRet (gVar 4)) gNext)
  (gDrop (gBM "list" mAppend (gVar 3) (gCons (gTup (gCons (gC (.str "rule")) (gCons (gVar 6) gNil))) gNil)))) (gIfS (gTest (gOp (rEqD3 false) (gVar 5) (gC (.str "rule")))) (gSeq (gSet 7 (gLc [9] (gIt (gFn sp_l_agood (gCons (gVar 0) (gCons (gVar 1) (gCons (gVar 6) gNil))))) (ggName 9) (gTest (gOp (rEqD3 false) (gCall cStrI (gCons (gVar 9) gNil)) (gOp rIxD (gVar 2) (gVar 4)))) (gVar 9)))
  (gSeq (gIfS (gTest (gOp (rEqD3 false) (gVar 7) (gLst gNil))) (gRet (gVar 4)) gNext)
  (gSeq (gDrop (gBM "list" mAppend (gVar 3) (gCons (gTup (gCons (gC (.str "end")) (gCons (gC (.str "]")) gNil))) gNil)))
  (gFor (gIt (gRev (gOp rIxD (gOp rIxD (gOp rIxD (gVar 0) (gC (.int 1))) (gOp rIxD (gVar 7) (gC (.int 0)))) (gC (.int 1))))) (ggName 8)
  (gDrop (gBM "list" mAppend (gVar 3) (gCons (gTup (gCons (gIf (gTest (gFn sp_l_ais_any_name (gCons (gVar 8) gNil))) (gC (.str "knot")) (gC (.str "sign"))) (gCons (gVar 8) gNil))) gNil))))))) (gIfS (gTest (gOp (rEqD3 true) (gOp rIxD (gVar 2) (gVar 4)) (gVar 6))) (gRet (gVar 4)) gNext))))))
  (gRet (gIf (gTest (gOp (rEqR false) (gVar 3) (gLst gNil))) (gC .non) (gCall cLen (gCons (gVar 2) gNil))))))
def sp_l_adue : Sp3 := fun ds h Q => ds.length = 3 ∧ W_l_adue { nx := fun _ h' => Q .non h', rt := Q } (startD ["_law_rules", "_law_heights", "_law_words", "_law_due", "_law_at", "_law_sort", "_law_what", "_law_some", "_law_word", "_law_number"] ds) h
theorem len_l_adue : ∀ ds h Q, sp_l_adue ds h Q → ds.length = [("_law_rules" : Str), ("_law_heights" : Str), ("_law_words" : Str)].length := fun _ _ _ z => z.1
theorem w_l_adue : ∀ ds h Q, sp_l_adue ds h Q → W_l_adue { nx := fun _ h' => Q .non h', rt := Q } (startD ["_law_rules", "_law_heights", "_law_words", "_law_due", "_law_at", "_law_sort", "_law_what", "_law_some", "_law_word", "_law_number"] ds) h := fun _ _ _ z => z.2
def W_l_aright : GS :=
  (gSeq (gSet 3 (gBM "str" mSplit (gVar 2) (gCons (gC (.str " ")) gNil)))
  (gSeq (gSet 4 (gFn sp_l_adue (gCons (gVar 0) (gCons (gVar 1) (gCons (gVar 3) gNil)))))
  (gSeq (gAsg (gFn sp_l_anumbered (gCons (gC (.obj "read_tree")) (gCons (gTup (gCons (gVar 0) (gCons (gVar 2) gNil))) gNil))) (ggTup 2 (ggCons (ggName 5) (ggCons (ggName 6) ggNil))))
  (gSeq (gIfS (gTest (gOp (rIsD true) (gVar 4) (gC .non))) (gRet (gAnd (gOp (rEqD3 false) (gVar 5) (gC (.str "no"))) (gFn (sp_l_asame 4) (gCons (gVar 6) (gCons (gVar 4) gNil))))) gNext)
  (gRet (gAnd (gOp (rEqD3 false) (gVar 5) (gC (.str "told"))) (gAnd (gOp (rEqD3 false) (gFn (sp_l_atree_words 200) (gCons (gVar 6) gNil)) (gVar 3)) (gCall cIsi (gCons (gVar 6) (gCons (gC (.ty "tuple")) gNil))))))))))
def sp_l_aright : Sp3 := fun ds h Q => ds.length = 3 ∧ W_l_aright { nx := fun _ h' => Q .non h', rt := Q } (startD ["_law_rules", "_law_heights", "_law_line", "_law_words", "_law_due", "_law_word", "_law_told"] ds) h
theorem len_l_aright : ∀ ds h Q, sp_l_aright ds h Q → ds.length = [("_law_rules" : Str), ("_law_heights" : Str), ("_law_line" : Str)].length := fun _ _ _ z => z.1
theorem w_l_aright : ∀ ds h Q, sp_l_aright ds h Q → W_l_aright { nx := fun _ h' => Q .non h', rt := Q } (startD ["_law_rules", "_law_heights", "_law_line", "_law_words", "_law_due", "_law_word", "_law_told"] ds) h := fun _ _ _ z => z.2
def W_law : GS :=
  (gSeq (gSet 1 (gFn sp_l_aopen (gCons (gVar 0) gNil)))
  (gSeq (gFor (gRng1 (gCons (gC (.int 3)) gNil)) (ggName 2)
  (gSeq (gSet 3 (gFn sp_l_awide_rules (gCons (gVar 1) gNil)))
  (gSeq (gSet 4 (gFn sp_l_aheights (gCons (gVar 3) gNil)))
  (gSeq (gSet 5 (gCall cSorted2 (gCons (gVar 4) gNil)))
  (gSeq (gFor (gIt (gLst (gCons (gC (.str "")) (gCons (gC (.str "[")) (gCons (gC (.str "[ 0")) (gCons (gC (.str "[ 0 ]")) (gCons (gC (.str "]")) (gCons (gC (.str "a")) (gCons (gC (.str ".")) (gCons (gC (.str "[ 0 ] ]")) (gCons (gC (.str "[  0 ]")) (gCons (gC (.str "[ 00 ]")) gNil)))))))))))) (ggName 6)
  (gIfS (gNotT (gTest (gFn sp_l_aright (gCons (gVar 3) (gCons (gVar 4) (gCons (gVar 6) gNil)))))) (gRet (gC (.bl false))) gNext))
  (gFor (gRng1 (gCons (gOp rMulD (gC (.int 6)) (gCall cInt1 (gCons (gOp (rEqD3 true) (gVar 5) (gLst gNil)) gNil))) gNil)) (ggName 7)
  (gSeq (gSet 8 (gOp rIxD (gVar 5) (gFn sp_l_adraw (gCons (gVar 1) (gCons (gCall cLen (gCons (gVar 5) gNil)) gNil)))))
  (gSeq (gSet 9 (gFn (sp_l_atree_words 200) (gCons (gFn (sp_l_atree 30) (gCons (gVar 1) (gCons (gVar 3) (gCons (gVar 4) (gCons (gVar 8) (gCons (gOp rIxD (gLst (gCons (gC (.int 1)) (gCons (gC (.int 3)) (gCons (gC (.int 4)) (gCons (gC (.int 20)) gNil))))) (gFn sp_l_adraw (gCons (gVar 1) (gCons (gC (.int 4)) gNil)))) gNil)))))) gNil)))
  (gSeq (gIfS (gTest (gOp rGtD (gCall cLen (gCons (gBM "str" mJoin (gC (.str " ")) (gCons (gVar 9) gNil)) gNil)) (gC (.int 900)))) (gSet 9 (gSl (gVar 9) gNoPart (gPart (gC (.int 40))))) gNext)
  (gSeq (gIfS (gTest (gOp rGtD (gFn sp_l_adraw (gCons (gVar 1) (gCons (gC (.int 5)) gNil))) (gC (.int 0)))) (gSet 9 (gFn sp_l_abent (gCons (gVar 1) (gCons (gVar 9) gNil)))) gNext)
  (gSeq (gIfS (gTest (gOp (rEqD3 false) (gFn sp_l_adraw (gCons (gVar 1) (gCons (gC (.int 4)) gNil))) (gC (.int 0)))) (gSet 9 (gFn sp_l_abent (gCons (gVar 1) (gCons (gVar 9) gNil)))) gNext)
  (gIfS (gNotT (gTest (gFn sp_l_aright (gCons (gVar 3) (gCons (gVar 4) (gCons (gBM "str" mJoin (gC (.str " ")) (gCons (gVar 9) gNil)) gNil)))))) (gRet (gC (.bl false))) gNext))))))))))))
  (gRet (gC (.bl true)))))
def sp_law : Sp3 := fun ds h Q => ds.length = 1 ∧ W_law { nx := fun _ h' => Q .non h', rt := Q } (startD ["_law_script", "_law_feed", "_law_turn", "_law_rules", "_law_heights", "_law_heads", "_law_line", "_law_again", "_law_head", "_law_words"] ds) h
theorem len_law : ∀ ds h Q, sp_law ds h Q → ds.length = [("_law_script" : Str)].length := fun _ _ _ z => z.1
theorem w_law : ∀ ds h Q, sp_law ds h Q → W_law { nx := fun _ h' => Q .non h', rt := Q } (startD ["_law_script", "_law_feed", "_law_turn", "_law_rules", "_law_heights", "_law_heads", "_law_line", "_law_again", "_law_head", "_law_words"] ds) h := fun _ _ _ z => z.2
end L73
namespace L73
open PySem L2 G3
set_option exponentiation.threshold 4000
theorem modSm (x m : Int) (h : 0 < m) (h2 : m < 2 ^ 40) : (x % m).natAbs < 2 ^ 300 := by
  have a := Int.emod_nonneg x (show m ≠ 0 by omega)
  have b := Int.emod_lt_of_pos x h
  omega
theorem amixed_sp {c a : Int} {h : Mh} {Q : Kd} (h0 : 0 ≤ a) (h1 : a < 2 ^ 60) (q : ∀ r, Q (.int r) h) : sp_l_amixed [.int c, .int a] h Q := by
  refine ⟨rfl, ?_⟩
  simp [W_l_amixed, mul_int]
  have ha : a.natAbs < 2 ^ 60 := by omega
  have hA : a.natAbs < 2 ^ 300 := by omega
  have haa : (a * a).natAbs < 2 ^ 120 := mulLt ha ha
  have hAA : (a * a).natAbs < 2 ^ 300 := by omega
  refine ⟨mulOk (modSm _ _ (by decide) (by decide)) (by decide), mulOk hA (by decide), mulOk (modSm _ _ (by decide) (by decide)) (modSm _ _ (by decide) (by decide)), mulOk hA hA, mulOk hAA (by decide), mulOk (modSm _ _ (by decide) (by decide)) (modSm _ _ (by decide) (by decide)), mulOk (modSm _ _ (by decide) (by decide)) (by decide), mulOk ?_ (by decide), q _⟩
  generalize hx : (_ : Int) % 2147483563 = x
  generalize hy : (_ : Int) % 2147483587 = y
  omega

theorem adraw_sp {n : Nat} {a : Addr} {k : Int} {h : Mh} {Q : Kd} (f : Feed h a n) (hn : n < 2 ^ 50) (k0 : 0 < k) (k1 : k < 2 ^ 200) (q : ∀ r h', 0 ≤ r → r < k → Feed h' a (n + 1) → Off a h h' → Q (.int r) h') : sp_l_adraw [.ref a, .int k] h Q := by
  obtain ⟨cells, at_, left, e, h0, h1, hc60⟩ := f
  refine ⟨rfl, ?_⟩
  refine seq_cut (fun ρ' h' => ∃ x y z at' left', ρ' = [some (.ref a), some (.int k), x, y, z] ∧ h' a = some (.lst [.lst (cells.map Dv.int), .int at', .int left']) ∧ 0 ≤ at' ∧ at' ≤ ((n + 1 : Nat) : Int) ∧ Off a h h') (fun N hN => ?_) ?_
  · by_cases hk : left < k
    · have hk2 := Int.not_le.2 hk
      simp [-gSeq, mul_int, e, hk, hk2]
      refine seq_step ?_
      simp [-gSeq, mul_int, e]
      refine seq_step ?_
      simp [-gSeq, mul_int, e]
      refine ⟨mulOk (by omega) (by decide), ?_⟩
      refine seq_cut (fun ρ' h' => ∃ c : Int, h' = h ∧ ρ' = [some (.ref a), some (.int k), some (.int at_), some (.int c), none]) (fun N2 hN2 => ?_) ?_
      · have d1 := dats_ints cells
        have d2 := deps_ints cells
        cases cells with
        | nil => 
          simp [-gSeq, mul_int, e]
          exact hN2 _ _ ⟨_, rfl, rfl⟩
        | cons c0 cs =>
          have hl : 0 < ((c0 :: cs).length : Int) := by simp only [List.length_cons]; omega
          obtain ⟨x, hx, _⟩ := atI_ok (xs := c0 :: cs) (Int.emod_nonneg at_ (show ((c0 :: cs).length : Int) ≠ 0 by omega)) (Int.emod_lt_of_pos at_ hl)
          have hx2 : atI (Dv.int c0 :: List.map Dv.int cs) (at_ % ((cs.length : Int) + 1)) = some (.int x) := by
            have := atI_map Dv.int (c0 :: cs) (at_ % (c0 :: cs).length)
            rw [hx] at this
            exact this
          simp [-gSeq, mul_int, e] at d1 d2 ⊢
          simp [d1, d2, hx2]
          exact hN2 _ _ ⟨_, rfl, rfl⟩
      · rintro _ _ ⟨c, rfl, rfl⟩
        refine seq_step ?_
        simp [-gSeq, mul_int, e]
        refine seq_step ?_
        simp [-gSeq, mul_int, e]
        have fin : ∀ left', N [some (Dv.ref a), some (Dv.int k), some (Dv.int at_), some (Dv.int c), none] (mput _ a (Mo.lst [Dv.lst (List.map Dv.int cells), Dv.int (at_ + 1), .int left'])) := fun l => hN _ _ ⟨_, _, _, _, _, rfl, mput_same, by omega, by omega, Off.put _ _ _⟩
        refine ⟨⟨by decide, by decide, by decide⟩, ?_⟩
        by_cases hc : c < 1000000000000000000
        · simp [hc, Int.not_le.2 hc]
          exact amixed_sp h0 (by omega) fun r => by simpa using fin r
        · by_cases hl : at_ < cells.length
          · simp [hc, Int.not_lt.1 hc, hl, Int.not_le.2 hl]
            exact fin c
          · simp [hc, Int.not_lt.1 hc, hl, Int.not_lt.1 hl]
            exact amixed_sp h0 (by omega) fun r => by simpa using fin r
    · have hk2 := Int.not_lt.1 hk
      simp [-gSeq, mul_int, e, hk, hk2]
      refine hN _ _ ⟨_, _, _, _, _, rfl, e, h0, by omega, Off.refl _ _⟩
  · rintro _ _ ⟨x, y, z, at', left', rfl, e', g0, g1, of⟩
    refine seq_step ?_
    simp [-gSeq, mul_int, e', k0]
    refine seq_step ?_
    simp [-gSeq, mul_int, e', k0]
    refine ⟨divOk k0 (by omega), q _ _ (Int.emod_nonneg _ (by omega)) (Int.emod_lt_of_pos _ k0) ⟨cells, at', left' / k, mput_same, g0, g1, hc60⟩ (of.trans (Off.put _ _ _))⟩
def one (c : Nat) : Dv := .str ⟨#[c]⟩
def inStr (x : Str) : Dv → Bool
  | .str z => strIn z x
  | _ => false
/-- the letters of a text, all in x -/
def allIn (x z : Str) : Bool := (z.cps.toList.map fun c => Dv.str ⟨#[c]⟩).all (inStr x)
def head (z : Str) : Str := ⟨#[z.cps.toList.headD 0]⟩
def isName : Dv → Bool
  | .str z => decide (0 < z.length ∧ z.length ≤ 6) && (strIn (head z) k_GREAT && allIn (k_SMALL ++ k_FIGURES) (cutS z (some 1) none))
  | _ => false
theorem head_at {z : Str} (h : 0 < z.length) : z.cps.toList[0]? = some (z.cps.toList.headD 0) := by
  rw [str_len] at h
  cases e : z.cps.toList with
  | nil => rw [e] at h; cases h
  | cons a r => rfl
theorem is_name_sp {d : Dv} {h : Mh} {Q : Kd} {t : String} (ht : tyOf h d = some t) (hz : ∀ z, d = .str z → z.length ≤ sizeLine) (q : Q (.bl (isName d)) h) : sp_is_name [d] h Q := by
  refine ⟨rfl, ?_⟩
  by_cases hs : ∃ z, d = .str z
  · obtain ⟨z, rfl⟩ := hs
    have hz := hz z rfl
    refine seq_step ?_
    simp [-gSeq]
    have hc : (cutS z (some 1) none).length ≤ sizeLine := Nat.le_trans (cutS_len _ _ _) hz
    refine ⟨hz, ?_⟩
    by_cases h0 : z.length = 0
    · exact .inl ⟨h0, by simpa [isName, h0] using q⟩
    · refine .inr ⟨by omega, ?_⟩
      by_cases h6 : z.length ≤ 6
      · refine .inr ⟨by omega, hz, ?_⟩
        have h00 : 0 < z.length := by omega
        refine ⟨_, by simpa using head_at h00, ?_⟩
        have e : isName (.str z) = (strIn (head z) k_GREAT && allIn (k_SMALL ++ k_FIGURES) (cutS z (some 1) none)) := by simp [isName, h00, h6]
        rw [e] at q
        cases hg : strIn (head z) k_GREAT
        · refine .inl ⟨by simpa [head] using hg, by simpa [hg] using q⟩
        · refine .inr ⟨by simpa [head] using hg, hz, ?_⟩
          refine all_lc (inStr (k_SMALL ++ k_FIGURES)) (fun d hd Q' R z => ?_) (by rw [List.length_map, ← str_len]; exact hc) (by rw [hg] at q; exact q)
          obtain ⟨c, hc, rfl⟩ := List.mem_map.1 hd
          simp [inStr] at z ⊢
          exact ⟨by decide +kernel, z⟩
      · exact .inl ⟨by omega, by simpa [isName, h6] using q⟩
  · have e : isName d = false := by
      cases d with
      | str z => exact absurd ⟨z, rfl⟩ hs
      | _ => rfl
    rw [e] at q
    simp [W_is_name, ht, ty_str ht hs, q]
theorem aopen_sp {cells : List Int} {h : Mh} {Q : Kd} (q : ∀ p h', h p = none → Feed h' p 0 → Q (.ref p) h') : sp_l_aopen [.lst (cells.map Dv.int)] h Q := by
  refine ⟨rfl, ?_⟩
  simp [W_l_aopen]
  rw [cutD_to (by decide)]
  intro p hp
  exact q p _ hp ⟨cells.take 60, 0, 0, by simp [List.map_take], by decide, by decide, by rw [List.length_take]; omega⟩
/-- the law's look at a word -/
def aisN (z : Str) : Bool := strIn (cutS z none (some 1)) "ABCDEFGHIJKLMNOPQRSTUVWXYZ" && !(z == (""  : Str))
theorem ais_name_sp {z : Str} {h : Mh} {Q : Kd} (hz : z.length ≤ sizeLine) (q : Q (.bl (aisN z)) h) : sp_l_ais_name [.str z] h Q := by
  refine ⟨rfl, ?_⟩
  rw [sizeLine_val] at hz
  simp [W_l_ais_name, hz]
  unfold aisN at q
  cases e : strIn (cutS z none (some 1)) "ABCDEFGHIJKLMNOPQRSTUVWXYZ"
  · rw [e] at q
    exact .inl ⟨rfl, q⟩
  · rw [e] at q
    exact .inr ⟨rfl, by simpa using q⟩
end L73

namespace L73
open PySem L2 G3
set_option exponentiation.threshold 4000
def rowD (x : Str × List Str) : Dv := .tup [.str x.1, .tup (x.2.map Dv.str)]
def strD : Dv → Str
  | .str z => z
  | _ => ""
def rowOf : Dv → Str × List Str
  | .tup [a, .tup ws] => (strD a, ws.map strD)
  | _ => ("", [])
theorem rowOf_rowD (x : Str × List Str) : rowOf (rowD x) = x := by
  obtain ⟨a, as⟩ := x
  have : (as.map Dv.str).map strD = as := by
    rw [List.map_map]
    exact List.map_id as
  simp only [rowD, rowOf, strD, this]
def okw (z : Str) : Bool := (decide (z.length ≤ 6) && z.cps.toList.all fun c => decide (c < 128)) && (aisN z == isName (.str z))
structure OkW (z : Str) : Prop where
  wd : Wd1 6 z
  nm : aisN z = isName (.str z)
theorem okw_ok {z : Str} (h : okw z = true) : OkW z := by
  unfold okw at h
  rw [Bool.and_eq_true, Bool.and_eq_true, decide_eq_true_eq, List.all_eq_true, beq_iff_eq] at h
  exact ⟨⟨h.1.1, fun c hc => by simpa using h.1.2 c hc⟩, h.2⟩
/-- a word that is a name -/
structure OkN (z : Str) : Prop where
  w : OkW z
  nm : isName (.str z) = true
def okn (z : Str) : Bool := okw z && isName (.str z)
theorem okn_ok {z : Str} (h : okn z = true) : OkN z := by
  unfold okn at h
  rw [Bool.and_eq_true] at h
  exact ⟨okw_ok h.1, h.2⟩
def IsRow (nms : List Str) (d : Dv) : Prop := ∃ h : Str, ∃ b : List Str, d = .tup [.str h, .tup (b.map Dv.str)] ∧ b.length ≤ 4 ∧ (h ∈ nms ∧ OkN h) ∧ ∀ w ∈ b, OkW w
def IsG (d : Dv) : Prop := ∃ t : Str, ∃ rs : List Dv, ∃ nms : List Str, d = .tup [.str t, .tup rs] ∧ OkN t ∧ 0 < rs.length ∧ rs.length ≤ 16 ∧ nms.length ≤ 4 ∧ ∀ r ∈ rs, IsRow nms r
def chkW : Dv → Bool
  | .str w => okw w
  | _ => false
def chkRow (nms : List Str) : Dv → Bool
  | .tup [.str h, .tup b] => (decide (h ∈ nms) && okn h) && (decide (b.length ≤ 4) && b.all chkW)
  | _ => false
theorem chkRow_ok {nms : List Str} {d : Dv} (h : chkRow nms d = true) : IsRow nms d := by
  unfold chkRow at h
  split at h
  · rename_i z b
    simp only [Bool.and_eq_true, decide_eq_true_eq] at h
    obtain ⟨h1, h2, h3⟩ := h
    have e : b = (b.map strD).map Dv.str := by
      clear h2
      induction b with
      | nil => rfl
      | cons w b ih =>
        rw [List.all_cons, Bool.and_eq_true] at h3
        rw [List.map_cons, List.map_cons, ← ih h3.2]
        cases w with
        | str w => rfl
        | _ => cases h3.1
    refine ⟨z, b.map strD, by rw [← e], by rw [List.length_map]; exact h2, ⟨h1.1, okn_ok h1.2⟩, fun w hw => ?_⟩
    obtain ⟨y, hy, rfl⟩ := List.mem_map.mp hw
    have := List.all_eq_true.mp h3 y hy
    cases y with
    | str w => exact okw_ok this
    | _ => cases this
  · cases h
def chkG (nms : List Str) : Dv → Bool
  | .tup [.str t, .tup rs] => okn t && (decide (0 < rs.length) && (decide (rs.length ≤ 16) && (decide (nms.length ≤ 4) && rs.all (chkRow nms))))
  | _ => false
theorem chkG_ok {d : Dv} (nms : List Str) (h : chkG nms d = true) : IsG d := by
  unfold chkG at h
  split at h
  · rename_i t rs
    simp only [Bool.and_eq_true, decide_eq_true_eq] at h
    obtain ⟨h1, h2, h3, h5, h4⟩ := h
    exact ⟨t, rs, nms, rfl, okn_ok h1, h2, h3, h5, fun r hr => chkRow_ok (List.all_eq_true.mp h4 r hr)⟩
  · cases h
theorem IsRow.nic {nms : List Str} {d : Dv} (r : IsRow nms d) : Nic 2 50 d := by
  obtain ⟨h, b, rfl, l, ⟨_, wh⟩, wb⟩ := r
  have wh := wh.w.wd
  have wb := fun w hw => (wb w hw).wd
  have n1 : Nic 1 28 (.tup (b.map Dv.str)) := (nic_tup' (D := 0) (W := 6) (m := 4) (fun d hd => by
    obtain ⟨z, hz, rfl⟩ := List.mem_map.1 hd
    exact nic_str (wb z hz)) (by simpa using l)).mono (by omega) (by omega)
  refine ⟨?_, ?_, ?_⟩
  · have a1 : smal (.str h) = true := (nic_str wh).sm
    have a2 : smal (.tup (b.map Dv.str)) = true := n1.sm
    show (smal (.str h) && (smal (.tup (b.map Dv.str)) && true)) = true
    rw [a1, a2]
    rfl
  · have := n1.dp
    simp at this ⊢
  · have := n1.wt
    have := wh.1
    simp only [wt, wts] at *
    omega
theorem IsRow.dat {nms : List Str} {d : Dv} (r : IsRow nms d) : dat d = true := (smal_of d r.nic.sm).1
theorem isRows_dat {nms : List Str} : ∀ {ds : List Dv}, (∀ d ∈ ds, IsRow nms d) → dats ds = true
  | [], _ => rfl
  | d :: ds, h => by simp [(h d List.mem_cons_self).dat, isRows_dat fun e he => h e (List.mem_cons_of_mem _ he)]
end L73

namespace L73
open PySem L2 G3
set_option exponentiation.threshold 4000
/-! ### the plain law of fruits -/
abbrev Row := Str × List Str
abbrev isNm (w : Str) : Bool := isName (.str w)
/-- a name has a tree of at most so many levels -/
def fr (rs : List Row) : Nat → Str → Bool
  | 0, _ => false
  | k + 1, n => rs.any fun r => decide (r.1 = n) && r.2.all fun w => !isNm w || fr rs k w
theorem fr_succ {rs : List Row} {k : Nat} {n : Str} : fr rs (k + 1) n = true ↔ ∃ r ∈ rs, r.1 = n ∧ ∀ w ∈ r.2, isNm w = true → fr rs k w = true := by
  simp only [fr, List.any_eq_true, Bool.and_eq_true, decide_eq_true_eq, List.all_eq_true, Bool.or_eq_true, Bool.not_eq_true']
  constructor
  · rintro ⟨r, hr, e, h⟩
    exact ⟨r, hr, e, fun w hw hn => (h w hw).resolve_left (by rw [hn]; simp)⟩
  · rintro ⟨r, hr, e, h⟩
    refine ⟨r, hr, e, fun w hw => ?_⟩
    cases hn : isNm w
    · exact .inl rfl
    · exact .inr (h w hw hn)
theorem fr_up {rs : List Row} : ∀ {k : Nat} {n : Str}, fr rs k n = true → fr rs (k + 1) n = true
  | 0, _, h => by cases h
  | k + 1, n, h => by
    obtain ⟨r, hr, e, g⟩ := fr_succ.mp h
    exact fr_succ.mpr ⟨r, hr, e, fun w hw hn => fr_up (g w hw hn)⟩
theorem fr_mono {rs : List Row} {k j : Nat} {n : Str} (h : fr rs k n = true) (l : k ≤ j) : fr rs j n = true := by
  induction j with
  | zero =>
    have : k = 0 := by omega
    subst this
    exact h
  | succ j ih =>
    by_cases e : k = j + 1
    · subst e; exact h
    · exact fr_up (ih (by omega))
def Still0 (rs : List Row) (k : Nat) : Prop := ∀ n, fr rs (k + 1) n = true → fr rs k n = true
theorem Still0.all {rs : List Row} {k : Nat} (s : Still0 rs k) : ∀ j {n : Str}, fr rs j n = true → fr rs k n = true
  | 0, _, h => by cases h
  | j + 1, n, h => by
    obtain ⟨r, hr, e, g⟩ := fr_succ.mp h
    exact s n (fr_succ.mpr ⟨r, hr, e, fun w hw hn => s.all j (g w hw hn)⟩)
theorem filt_lt {p q : Str → Bool} (hpq : ∀ n, p n = true → q n = true) : ∀ {l : List Str} {n : Str}, n ∈ l → q n = true → p n = false → (l.filter p).length < (l.filter q).length
  | [], _, h, _, _ => by cases h
  | x :: l, n, h, hq, hp => by
    have le : ∀ l : List Str, (l.filter p).length ≤ (l.filter q).length := fun l => by
      induction l with
      | nil => simp
      | cons y l ih =>
        rw [List.filter_cons, List.filter_cons]
        cases e : p y
        · cases e2 : q y <;> simp <;> omega
        · simp [hpq y e, ih]
    rw [List.filter_cons, List.filter_cons]
    rcases List.mem_cons.mp h with rfl | h
    · have := le l
      simp [hq, hp]
      omega
    · have := filt_lt hpq h hq hp
      cases e : p x
      · cases e2 : q x <;> simp <;> omega
      · simp [hpq x e, this]
theorem fr_stop {rs : List Row} {nms : List Str} (hh : ∀ r ∈ rs, r.1 ∈ nms) : ∀ k, (∃ j, j < k ∧ Still0 rs j) ∨ k ≤ (nms.filter (fr rs k)).length
  | 0 => .inr (Nat.zero_le _)
  | k + 1 => by
    rcases fr_stop hh k with ⟨j, a, b⟩ | h
    · exact .inl ⟨j, by omega, b⟩
    by_cases s : Still0 rs k
    · exact .inl ⟨k, by omega, s⟩
    · refine .inr ?_
      have : ∃ n, fr rs (k + 1) n = true ∧ fr rs k n = false := by
        apply Classical.byContradiction
        intro no
        refine s fun n hn => ?_
        cases e : fr rs k n
        · exact absurd ⟨n, hn, e⟩ no
        · rfl
      obtain ⟨n, h1, h0⟩ := this
      obtain ⟨r, hr, e, _⟩ := fr_succ.mp h1
      have := filt_lt (p := fr rs k) (q := fr rs (k + 1)) (fun n h => fr_up h) (e ▸ hh r hr) h1 h0
      omega
/-- so many levels as there are heads -/
theorem fr_most {rs : List Row} {nms : List Str} (hh : ∀ r ∈ rs, r.1 ∈ nms) {m : Nat} (hm : nms.length ≤ m) {k : Nat} {n : Str} (h : fr rs k n = true) : fr rs m n = true := by
  rcases fr_stop hh (m + 1) with ⟨j, a, b⟩ | c
  · exact fr_mono (b.all k h) (by omega)
  · have := List.length_filter_le (fr rs (m + 1)) nms
    omega
def Fru (rs : List Row) (n : Str) : Prop := ∃ k, fr rs k n = true
theorem Fru.mk {rs : List Row} {r : Row} (hr : r ∈ rs) (h : ∀ w ∈ r.2, isNm w = true → Fru rs w) : Fru rs r.1 := by
  have : ∀ ws : List Str, (∀ w ∈ ws, isNm w = true → Fru rs w) → ∃ k, ∀ w ∈ ws, isNm w = true → fr rs k w = true := by
    intro ws
    induction ws with
    | nil => exact fun _ => ⟨0, fun w hw => by cases hw⟩
    | cons x ws ih =>
      intro g
      obtain ⟨k, hk⟩ := ih fun w hw => g w (List.mem_cons_of_mem _ hw)
      cases hx : isNm x
      · refine ⟨k, fun w hw hn => ?_⟩
        rcases List.mem_cons.mp hw with rfl | hw
        · rw [hx] at hn; cases hn
        · exact hk w hw hn
      · obtain ⟨j, hj⟩ := g x List.mem_cons_self hx
        refine ⟨max k j, fun w hw hn => ?_⟩
        rcases List.mem_cons.mp hw with rfl | hw
        · exact fr_mono hj (Nat.le_max_right _ _)
        · exact fr_mono (hk w hw hn) (Nat.le_max_left _ _)
  obtain ⟨k, hk⟩ := this r.2 h
  exact ⟨k + 1, fr_succ.mpr ⟨r, hr, rfl, hk⟩⟩
theorem fru_ind {rs : List Row} {P : Str → Prop} (h : ∀ r ∈ rs, (∀ w ∈ r.2, isNm w = true → P w) → P r.1) : ∀ {n : Str}, Fru rs n → P n := by
  have : ∀ k n, fr rs k n = true → P n := by
    intro k
    induction k with
    | zero => intro n h; cases h
    | succ k ih =>
      intro n hn
      obtain ⟨r, hr, e, g⟩ := fr_succ.mp hn
      exact e ▸ h r hr fun w hw hw2 => ih w (g w hw hw2)
  rintro n ⟨k, hk⟩
  exact this k n hk
end L73

namespace L73
open PySem L2 G3
set_option exponentiation.threshold 4000
structure Rls (nms A : List Str) (rs : List Row) : Prop where
  hd : ∀ r ∈ rs, r.1 ∈ nms
  bd : ∀ r ∈ rs, r.2.length ≤ 4
  sg : ∀ r ∈ rs, ∀ w ∈ r.2, isNm w = false → w ∈ A
theorem nodup_le {α : Type} [DecidableEq α] : ∀ (l m : List α), l.Nodup → (∀ x ∈ l, x ∈ m) → l.length ≤ m.length
  | [], m, _, _ => Nat.zero_le _
  | x :: l, m, h, s => by
    have hx := s x List.mem_cons_self
    obtain ⟨h1, h2⟩ := List.nodup_cons.mp h
    have ih := nodup_le l (m.erase x) h2 fun y hy => (List.mem_erase_of_ne (fun e => h1 (by rw [← e]; exact hy))).mpr (s y (List.mem_cons_of_mem _ hy))
    rw [List.length_erase_of_mem hx] at ih
    have := List.length_pos_of_mem hx
    rw [List.length_cons]
    omega
structure Wrd (rs : List Row) : Prop where
  hd : ∀ r ∈ rs, OkW r.1
  bd : ∀ r ∈ rs, ∀ w ∈ r.2, OkW w
theorem OkW.sz {w : Str} (o : OkW w) : w.length ≤ sizeLine := by
  have := o.wd.1
  rw [sizeLine_val]
  omega
theorem strs_dat : ∀ ws : List Str, dats (ws.map Dv.str) = true ∧ deps (ws.map Dv.str) = 0
  | [] => ⟨rfl, rfl⟩
  | w :: ws => by
    obtain ⟨a, b⟩ := strs_dat ws
    rw [List.map_cons]
    exact ⟨by simp only [dats, dat, a, Bool.and_self], by simp only [deps, dep, b]; rfl⟩
def rulesD (t : Str) (rs : List Row) : Dv := .tup [.str t, .tup (rs.map rowD)]
structure Rul (nms A : List Str) (t : Str) (rs : List Row) : Prop where
  R : Rls nms A rs
  W : Wrd rs
  l : rs.length ≤ 16
  n : nms.length ≤ 6
  ot : OkW t
  hnm : ∀ r ∈ rs, isNm r.1 = true
def Kpa (h h' : Mh) : Prop := ∀ b m, h b = some m → h' b = some m
theorem Kpa.refl (h : Mh) : Kpa h h := fun _ _ e => e
theorem Kpa.trans {h h1 h2 : Mh} (x : Kpa h h1) (y : Kpa h1 h2) : Kpa h h2 := fun b m e => y b m (x b m e)
theorem Kpa.new {p : Addr} {h h' : Mh} (e : h p = none) (o : Mo) (k : Kpa h h') : Kpa h (mput h' p o) := fun b m e2 => by
  by_cases z : b = p
  · rw [z, e] at e2; cases e2
  · rw [mput_ne z]; exact k b m e2
theorem Kpa.none {h h' : Mh} (k : Kpa h h') {p : Addr} (e : h' p = none) : h p = none := by
  cases z : h p with
  | none => rfl
  | some m => rw [k p m z] at e; cases e
/-! ### names that come to something -/
inductive Cl (K : Str → Bool) (rs : List Row) : Str → Prop
  | mk (r : Row) (hr : r ∈ rs) (h : ∀ w ∈ r.2, K w = false → Cl K rs w) : Cl K rs r.1
def okW (K : Str → Bool) (f ws : List Str) : Bool := ws.all fun w => decide (w ∈ f) || K w
def stepW (K : Str → Bool) (f : List Str) (r : Row) : List Str := if r.1 ∉ f ∧ okW K f r.2 = true then f ++ [r.1] else f
def passW (K : Str → Bool) (rs : List Row) (f : List Str) : List Str := rs.foldl (stepW K) f
section
variable {K : Str → Bool} {rs : List Row}
theorem stepW_ext (f : List Str) (r : Row) : ∃ g, stepW K f r = f ++ g := by
  unfold stepW
  split
  · exact ⟨_, rfl⟩
  · exact ⟨[], by simp⟩
theorem passW_ext : ∀ (rs : List Row) (f : List Str), ∃ g, passW K rs f = f ++ g
  | [], f => ⟨[], by simp [passW]⟩
  | r :: rs, f => by
    obtain ⟨g, e⟩ := stepW_ext (K := K) f r
    obtain ⟨g2, e2⟩ := passW_ext rs (stepW K f r)
    exact ⟨g ++ g2, by show passW K rs (stepW K f r) = _; rw [e2, e, List.append_assoc]⟩
theorem passW_fix : ∀ (rs : List Row) (f : List Str), (passW K rs f).length = f.length → ∀ r ∈ rs, stepW K f r = f
  | [], _, _, r, h => by cases h
  | x :: rs, f, h, r, hr => by
    have h : (passW K rs (stepW K f x)).length = f.length := h
    obtain ⟨g, e⟩ := stepW_ext (K := K) f x
    obtain ⟨g2, e2⟩ := passW_ext (K := K) rs (stepW K f x)
    have hx : stepW K f x = f := by
      have q := congrArg List.length e2
      rw [h, e, List.length_append, List.length_append] at q
      have : g = [] := List.eq_nil_of_length_eq_zero (by omega)
      rw [e, this, List.append_nil]
    rcases List.mem_cons.mp hr with rfl | hr
    · exact hx
    · rw [hx] at h
      exact passW_fix rs f h r hr
structure InvW (K : Str → Bool) (nms : List Str) (rs : List Row) (f : List Str) : Prop where
  nd : f.Nodup
  sub : ∀ n ∈ f, n ∈ nms
  cl : ∀ n ∈ f, Cl K rs n
theorem InvW.step {nms f : List Str} (I : InvW K nms rs f) (hh : ∀ r ∈ rs, r.1 ∈ nms) {r : Row} (hr : r ∈ rs) : InvW K nms rs (stepW K f r) := by
  unfold stepW
  split
  · rename_i h
    refine ⟨?_, fun n hn => ?_, fun n hn => ?_⟩
    · refine List.nodup_append.mpr ⟨I.nd, by simp, fun a ha b hb e => ?_⟩
      rw [List.mem_singleton.mp hb] at e
      exact h.1 (e ▸ ha)
    · rcases List.mem_append.mp hn with hn | hn
      · exact I.sub n hn
      · rw [List.mem_singleton.mp hn]; exact hh r hr
    · rcases List.mem_append.mp hn with hn | hn
      · exact I.cl n hn
      · rw [List.mem_singleton.mp hn]
        refine .mk r hr fun w hw hk => ?_
        have := List.all_eq_true.mp h.2 w hw
        rw [hk, Bool.or_false, decide_eq_true_eq] at this
        exact I.cl w this
  · exact I
theorem InvW.pass {nms : List Str} (hh : ∀ r ∈ rs, r.1 ∈ nms) : ∀ (l : List Row) {f : List Str}, (∀ r ∈ l, r ∈ rs) → InvW K nms rs f → InvW K nms rs (passW K l f)
  | [], f, _, I => I
  | r :: l, f, h, I => InvW.pass hh l (fun x hx => h x (List.mem_cons_of_mem _ hx)) (I.step hh (h r List.mem_cons_self))
theorem invW_nil {nms : List Str} : InvW K nms rs [] := ⟨List.nodup_nil, (fun n hn => by cases hn), (fun n hn => by cases hn)⟩
theorem InvW.len {nms f : List Str} (I : InvW K nms rs f) : f.length ≤ nms.length := nodup_le f nms I.nd I.sub
theorem fixW_cl {f : List Str} (s : ∀ r ∈ rs, stepW K f r = f) : ∀ {n : Str}, Cl K rs n → n ∈ f := by
  intro n c
  induction c with
  | mk r hr h ih =>
    have e := s r hr
    unfold stepW at e
    split at e
    · have := congrArg List.length e
      rw [List.length_append, List.length_singleton] at this
      omega
    · rename_i no
      apply Classical.byContradiction
      intro hn
      refine no ⟨hn, List.all_eq_true.mpr fun w hw => ?_⟩
      cases hk : K w
      · rw [decide_eq_true (ih w hw hk)]; rfl
      · rw [Bool.or_true]
end
theorem cl_fru {rs : List Row} {n : Str} : Cl (fun w => !isNm w) rs n ↔ Fru rs n := by
  constructor
  · intro c
    induction c with
    | mk r hr h ih => exact Fru.mk hr fun w hw hn => ih w hw (by rw [hn]; rfl)
  · intro f
    exact fru_ind (P := Cl (fun w => !isNm w) rs) (fun r hr hw => .mk r hr fun w h1 h2 => hw w h1 (by simpa using h2)) f
theorem isIn_strs (w : Str) (f : List Str) : isIn (.str w) (f.map Dv.str) = decide (w ∈ f) := by
  induction f with
  | nil => rfl
  | cons x f ih =>
    have e : isIn (.str w) ((x :: f).map Dv.str) = ((x == w) || isIn (.str w) (f.map Dv.str)) := rfl
    rw [e, ih]
    by_cases h : x = w
    · subst h; simp
    · have h2 : ¬ w = x := fun z => h z.symm
      have e2 : (x == w) = false := beq_eq_false_iff_ne.mpr h
      rw [e2, Bool.false_or]
      simp [h2]
theorem okIn_strs (w : Str) (f : List Str) : okIn (.str w) (f.map Dv.str) := ⟨rfl, (strs_dat f).1, by show 0 ≤ _; omega⟩
end L73

namespace L73
open PySem L2 G3
set_option exponentiation.threshold 4000
theorem app_map (f : List Str) (n : Str) : (f ++ [n]).map Dv.str = f.map Dv.str ++ [Dv.str n] := by rw [List.map_append] <;> rfl
def Wf (K : Str → Bool) (h0 : Mh) (p fa : Addr) (R : Dv) (nms : List Str) (rs : List Row) (m : Nat) (ρ : Sl) (h : Mh) : Prop :=
  ∃ (f : List Str) (c : Int) (a4 a5 a6 : Option Dv), ρ = [some R, some (.ref fa), some (.ref p), some (.int c), a4, a5, a6] ∧ h = mput h0 p (.lst (f.map Dv.str)) ∧ InvW K nms rs f ∧ (c = -1 ∨ ∃ g, f = passW K rs g ∧ c = g.length) ∧ -1 ≤ c ∧ c ≤ f.length ∧ m = (6 - c).toNat
theorem whole_sp {nm : Str} {K : Str → Bool} {t : Str} {nms A : List Str} {rs : List Row} (U : Rul nms A t rs) (hK : ∀ w, OkW w → ∀ (h : Mh) (Q : Kd), Q (.bl (K w)) h → ∃ sp, lams_whole_names.lookup nm = some sp ∧ sp [.str w] h Q) {h : Mh} {fa : Addr} (hf : h fa = some (.lam nm)) {Q : Kd}
    (q : ∀ f ys p2 h', f.Nodup → (∀ n, n ∈ f ↔ Cl K rs n) → ys.Perm f → PyProof.Rows.sortedS ys = true → h p2 = none → Kpa h h' → h' p2 = some (.lst (ys.map Dv.str)) → Q (.ref p2) h') : sp_whole_names [rulesD t rs, .ref fa] h Q := by
  obtain ⟨R, W, hl, hn, ot⟩ := U
  refine ⟨rfl, ?_⟩
  refine seq_step ?_
  simp [-gSeq, -gWhile, -wFor, -wLc]
  intro p hp
  have npf : p ≠ fa := fun z => by rw [z, hf] at hp; cases hp
  refine seq_step ?_
  simp [-gSeq, -gWhile, -wFor, -wLc]
  refine seq_step ?_
  refine while_of (Wf K h p fa (rulesD t rs) nms rs) (m := 7) ⟨[], -1, none, none, none, rfl, rfl, invW_nil, .inl rfl, by omega, by simp, rfl⟩ fun m ρ h1 N hI hN => ?_
  obtain ⟨f, c, a4, a5, a6, rfl, rfl, I, ec, c0, c1, em⟩ := hI
  have fl := I.len
  have fz : f.length ≤ sizeLine := by rw [sizeLine_val]; omega
  simp [-gSeq, -gWhile, -wFor, -wLc]
  rcases Classical.em (c < f.length) with hc | hc
  rotate_left
  · -- nothing new
    have e : c = f.length := by omega
    rcases ec with ec | ⟨g, e1, e2⟩
    · omega
    have st : ∀ r ∈ rs, stepW K g r = g := passW_fix rs g (by rw [← e1]; omega)
    have efg : f = g := by
      obtain ⟨x, ex⟩ := passW_ext (K := K) rs g
      have q2 := congrArg List.length ex
      rw [← e1, List.length_append] at q2
      have : x = [] := List.eq_nil_of_length_eq_zero (by omega)
      rw [e1, ex, this, List.append_nil]
    rw [← efg] at st
    refine .inl ⟨by omega, .ref p, rfl, f, by simp [lstOf], by omega, fun ys y1 y2 p2 y3 => ?_⟩
    refine q f ys p2 _ I.nd (fun n => ⟨I.cl n, fixW_cl st⟩) y1 y2 ?_ ((Kpa.new hp _ (Kpa.refl h)).trans (Kpa.new y3 _ (Kpa.refl _))) mput_same
    exact Kpa.none (Kpa.new hp _ (Kpa.refl h)) y3
  refine .inr ⟨hc, ?_⟩
  refine seq_step ?_
  simp [-gSeq, -gWhile, -wFor, -wLc]
  unfold rulesD
  simp [-gSeq, -gWhile, -wFor, -wLc]
  refine wFor_inv _ (fun i ρ' h' => ∃ (a4 a5 a6 : Option Dv), ρ' = [some (rulesD t rs), some (.ref fa), some (.ref p), some (.int f.length), a4, a5, a6] ∧ h' = mput h p (.lst ((passW K (rs.take i) f).map Dv.str))) _ _ (fun i d ρ' h' N2 hI hd hN2 => ?_) ⟨a4, a5, a6, rfl, rfl⟩ (fun ρ' h' hI => ?_)
  · obtain ⟨a4, a5, a6, rfl, rfl⟩ := hI
    rw [List.getElem?_map] at hd
    obtain ⟨r, hr, rfl⟩ := Option.map_eq_some_iff.mp hd
    have hm := List.mem_of_getElem? hr
    have et : rs.take (i + 1) = rs.take i ++ [r] := by rw [List.take_add_one, hr]; rfl
    have eS : passW K (rs.take (i + 1)) f = stepW K (passW K (rs.take i) f) r := by rw [et]; exact List.foldl_append
    have I1 := InvW.pass R.hd (rs.take i) (fun x hx => List.mem_of_mem_take hx) I
    rw [eS] at hN2
    generalize passW K (rs.take i) f = g at hN2 I1 ⊢
    have gl := I1.len
    simp [ggCons, rowD, -gSeq, -wFor, -wLc, -isIn]
    refine ⟨_, _, ⟨rfl, rfl⟩, _, _, rfl, rfl, ⟨rfl, Nat.zero_le _⟩, ?_⟩
    rw [isIn_strs]
    have b4 := R.bd r hm
    by_cases hin : r.1 ∈ g
    · refine .inl ⟨decide_eq_true hin, hN2 _ _ ⟨_, _, _, rfl, ?_⟩⟩
      unfold stepW
      rw [if_neg (fun z => z.1 hin)]
    refine .inr ⟨decide_eq_false hin, _, rfl, ?_⟩
    refine all_lc (fun d => decide (strD d ∈ g) || K (strD d)) (fun d hd Q' R' z => ?_) (by rw [List.length_map, sizeLine_val]; omega) ?_
    · obtain ⟨w, hw, rfl⟩ := List.mem_map.mp hd
      have ow := W.bd r hm w hw
      simp [-gSeq, -wFor, -wLc, -isIn]
      have od := (strs_dat g).1
      have e0 : mput h p (Mo.lst (g.map Dv.str)) fa = some (.lam nm) := by rw [mput_ne npf.symm]; exact hf
      change Q' (Dv.bl (decide (w ∈ g) || K w)) _ at z
      by_cases hw2 : w ∈ g
      · rw [decide_eq_true hw2, Bool.true_or] at z
        exact .inr ⟨by rw [isIn_strs]; exact decide_eq_true hw2, z⟩
      · rw [decide_eq_false hw2, Bool.false_or] at z
        exact .inl ⟨by rw [isIn_strs]; exact decide_eq_false hw2, ⟨nm, e0⟩, nm, e0, hK w ow _ _ z⟩
    · have eo : ((r.2.map Dv.str).all fun d => decide (strD d ∈ g) || K (strD d)) = okW K g r.2 := by
        unfold okW
        rw [List.all_map]
        rfl
      rw [eo]
      cases ho : okW K g r.2
      · refine .inl ⟨rfl, hN2 _ _ ⟨_, _, _, rfl, ?_⟩⟩
        unfold stepW
        rw [if_neg (fun z => by rw [ho] at z; exact absurd z.2 (by simp))]
      · refine .inr ⟨rfl, ⟨_, mput_same⟩, _, mput_same, by rw [List.length_map]; omega, hN2 _ _ ⟨_, _, _, rfl, ?_⟩⟩
        unfold stepW
        rw [if_pos ⟨hin, ho⟩, mput_mput, app_map]
  · obtain ⟨a4, a5, a6, rfl, rfl⟩ := hI
    rw [List.length_map, List.take_length]
    have I1 := InvW.pass (K := K) R.hd rs (fun x hx => hx) I
    obtain ⟨x, ex⟩ := passW_ext (K := K) rs f
    refine hN (6 - (f.length : Int)).toNat _ _ (by omega) ⟨_, f.length, _, _, _, rfl, rfl, I1, .inr ⟨f, rfl, rfl⟩, by omega, ?_, rfl⟩
    rw [ex, List.length_append]
    omega
theorem lookF : List.lookup ("fruitful" : Str) lams_whole_names = some sp_lam_fruitful := by
  unfold lams_whole_names
  rw [List.lookup_cons_self]
/-- a new list of names -/
def NewNames (P : Str → Prop) (h : Mh) (Q : Kd) : Prop := ∀ f ys p2 h', f.Nodup → (∀ n, n ∈ f ↔ P n) → ys.Perm f → PyProof.Rows.sortedS ys = true → h p2 = none → Kpa h h' → h' p2 = some (.lst (ys.map Dv.str)) → Q (.ref p2) h'
theorem fruitful_sp {t : Str} {nms A : List Str} {rs : List Row} (U : Rul nms A t rs) {h : Mh} {Q : Kd} (q : NewNames (Fru rs) h Q) : sp_fruitful [rulesD t rs] h Q := by
  refine ⟨rfl, ?_⟩
  simp [W_fruitful]
  intro p hp
  refine whole_sp (nm := "fruitful") (K := fun w => !isNm w) U (fun w ow h Q z => ⟨_, lookF, rfl, ?_⟩) mput_same fun f ys p2 h' y1 y2 y3 y4 y5 y6 y7 => ?_
  · simp [W_lam_fruitful]
    refine is_name_sp rfl (fun z e => by cases e; exact ow.sz) ?_
    change Q (Dv.bl (!isName (.str w))) h at z
    cases e : isName (.str w)
    · rw [e] at z; exact .inl ⟨rfl, z⟩
    · rw [e] at z; exact .inr ⟨rfl, z⟩
  · exact q f ys p2 h' y1 (fun n => (y2 n).trans cl_fru) y3 y4 (Kpa.none (Kpa.new hp _ (Kpa.refl h)) y5) ((Kpa.new hp _ (Kpa.refl h)).trans y6) y7
end L73

namespace L73
open PySem L2 G3
set_option exponentiation.threshold 4000
/-! ### rising names -/
def leS (a b : Str) : Prop := ¬ b.cps.toList < a.cps.toList
theorem itemLt_str (a b : Str) : PyProof.Rows.itemOrd.blt (Sum.inr a.cps.toList) (Sum.inr b.cps.toList) = decide (a.cps.toList < b.cps.toList) := by
  have h1 := PySem.W.lex_one (Sum.inr a.cps.toList) (Sum.inr b.cps.toList)
  have h2 := PySem.W.dataLt_str a b
  rw [← h2]
  exact h1.symm
theorem leS_iff {a b : Str} : leS a b ↔ PyProof.Rows.itemOrd.blt (Sum.inr b.cps.toList) (Sum.inr a.cps.toList) = false := by
  rw [itemLt_str]
  unfold leS
  simp
theorem leS_anti {a b : Str} (h1 : leS a b) (h2 : leS b a) : a = b := by
  have := PyProof.Rows.itemOrd.total _ _ (leS_iff.mp h2) (leS_iff.mp h1)
  exact PySem.W.str_of_cps (Sum.inr.inj this)
theorem leS_trans {a b c : Str} (h1 : leS a b) (h2 : leS b c) : leS a c := by
  rw [leS_iff] at *
  cases e : PyProof.Rows.itemOrd.blt (Sum.inr c.cps.toList) (Sum.inr a.cps.toList) with
  | false => rfl
  | true =>
    rcases PyProof.Rows.itemOrd.negTrans _ (Sum.inr b.cps.toList) _ e with z | z
    · rw [h2] at z; cases z
    · rw [h1] at z; cases z
theorem rising_pw : ∀ {l : List Str} {p : Str}, PyProof.Rows.risingS p l = true → (∀ x ∈ l, leS p x) ∧ l.Pairwise leS
  | [], _, _ => ⟨(fun x hx => by cases hx), .nil⟩
  | x :: l, p, h => by
    have h : (!Spec.ltCps x.cps.toList p.cps.toList && PyProof.Rows.risingS x l) = true := h
    rw [Bool.and_eq_true] at h
    obtain ⟨a, b⟩ := rising_pw h.2
    have hpx : leS p x := by
      have := h.1
      rw [PyProof.Rows.ltCps_eq] at this
      unfold leS
      simpa using this
    refine ⟨fun y hy => ?_, List.pairwise_cons.mpr ⟨a, b⟩⟩
    rcases List.mem_cons.mp hy with rfl | hy
    · exact hpx
    · exact leS_trans hpx (a y hy)
theorem sorted_pw : ∀ {l : List Str}, PyProof.Rows.sortedS l = true → l.Pairwise leS
  | [], _ => .nil
  | x :: l, h => List.pairwise_cons.mpr (rising_pw h)
theorem srt_one : ∀ {l m : List Str}, l.Perm m → l.Pairwise leS → m.Pairwise leS → l = m
  | [], m, p, _, _ => (List.nil_perm.mp p).symm
  | a :: l, [], p, _, _ => by have := p.length_eq; simp at this
  | a :: l, b :: m, p, s1, s2 => by
    obtain ⟨a1, a2⟩ := List.pairwise_cons.mp s1
    obtain ⟨b1, b2⟩ := List.pairwise_cons.mp s2
    have e : a = b := by
      rcases List.mem_cons.mp (p.mem_iff.mp List.mem_cons_self) with h | h
      · exact h
      rcases List.mem_cons.mp (p.mem_iff.mpr (List.mem_cons_self : b ∈ b :: m)) with h2 | h2
      · exact h2.symm
      · exact leS_anti (a1 b h2) (b1 a h)
    subst e
    rw [srt_one ((List.perm_cons a).mp p) a2 b2]
/-- the names of which P holds, rising -/
structure Srt (P : Str → Prop) (ys : List Str) : Prop where
  nd : ys.Nodup
  mem : ∀ n, n ∈ ys ↔ P n
  up : ys.Pairwise leS
theorem Srt.one {P Q : Str → Prop} {xs ys : List Str} (a : Srt P xs) (b : Srt Q ys) (e : ∀ n, P n ↔ Q n) : xs = ys :=
  srt_one ((List.perm_ext_iff_of_nodup a.nd b.nd).mpr fun n => (a.mem n).trans ((e n).trans (b.mem n).symm)) a.up b.up
theorem srt_of {P : Str → Prop} {f ys : List Str} (nd : f.Nodup) (mem : ∀ n, n ∈ f ↔ P n) (p : ys.Perm f) (s : PyProof.Rows.sortedS ys = true) : Srt P ys :=
  ⟨p.nodup_iff.mpr nd, fun n => (p.mem_iff).trans (mem n), sorted_pw s⟩
theorem keys_strs : ∀ {ks : List Key}, (∀ k ∈ ks, ∃ w : Str, k = .inr w) → ∃ ys : List Str, ks = ys.map Sum.inr ∧ ks.map keyD = ys.map Dv.str
  | [], _ => ⟨[], rfl, rfl⟩
  | k :: ks, h => by
    obtain ⟨ys, e1, e2⟩ := keys_strs (ks := ks) fun x hx => h x (List.mem_cons_of_mem _ hx)
    obtain ⟨w, rfl⟩ := h k List.mem_cons_self
    exact ⟨w :: ys, by rw [e1]; rfl, by rw [List.map_cons, e2]; rfl⟩
/-- sortedK of names -/
theorem sortedK_strs {acc : List Key} {P : Str → Prop} (ha : ∀ k, k ∈ acc ↔ ∃ w, k = Sum.inr w ∧ P w) {h : Mh} {Q : Kd} (q : ∀ ys, Srt P ys → Q (.lst (ys.map Dv.str)) h) : sortedK acc h Q := by
  refine ⟨.inr fun k hk => (let ⟨w, e, _⟩ := (ha k).mp hk; ⟨w, e⟩), fun ks nd mem pw => ?_⟩
  obtain ⟨ys, e1, e2⟩ := keys_strs (ks := ks) fun k hk => let ⟨w, e, _⟩ := (ha k).mp ((mem k).mp hk); ⟨w, e⟩
  rw [e2]
  subst e1
  refine q ys ⟨?_, fun n => ?_, ?_⟩
  · exact (List.pairwise_map.mp nd).imp fun h e => h (by rw [e])
  · have z : n ∈ ys ↔ Sum.inr n ∈ ys.map (Sum.inr : Str → Key) := ⟨fun h => List.mem_map.mpr ⟨n, h, rfl⟩, fun h => by
      obtain ⟨m, hm, e⟩ := List.mem_map.mp h
      cases e
      exact hm⟩
    rw [z, mem, ha]
    exact ⟨fun ⟨w, e, p⟩ => by cases e; exact p, fun p => ⟨n, rfl, p⟩⟩
  · refine (List.pairwise_map.mp pw).imp fun {a b} h => ?_
    have h : (!PySem.W.dataLt (.str b) (.str a)) = true := h
    rw [PySem.W.dataLt_str] at h
    unfold leS
    simpa using h
end L73

namespace L73
open PySem L2 G3
set_option exponentiation.threshold 4000
/-! ### rows all of whose names are fruitful -/
def goodB (F : List Str) (r : Row) : Bool := r.2.all fun w => !isNm w || decide (w ∈ F)
def goodL (F : List Str) (rs : List Row) : List (Row × Nat) := rs.zipIdx.filter fun x => goodB F x.1
def goodD (x : Row × Nat) : Dv := .tup [.int x.2, .str x.1.1, .tup (x.1.2.map Dv.str)]
theorem goodB_fru {F : List Str} {rs : List Row} (hF : Srt (Fru rs) F) {r : Row} (hr : r ∈ rs) (g : goodB F r = true) : r.1 ∈ F := by
  refine (hF.mem _).mpr (Fru.mk hr fun w hw hn => ?_)
  have := List.all_eq_true.mp g w hw
  rw [hn, Bool.not_true, Bool.false_or, decide_eq_true_eq] at this
  exact (hF.mem _).mp this
theorem good_all {F : List Str} {rs : List Row} (hF : Srt (Fru rs) F) {r : Row} (hr : r ∈ rs) : ((r.1 :: r.2).all fun w => !isNm w || decide (w ∈ F)) = goodB F r := by
  rw [List.all_cons]
  show (_ && goodB F r) = goodB F r
  cases g : goodB F r
  · rw [Bool.and_false]
  · rw [decide_eq_true (goodB_fru hF hr g), Bool.or_true]; rfl
theorem zip_take {α : Type} {rs : List α} {i : Nat} {r : α} (e : rs[i]? = some r) : (rs.take (i + 1)).zipIdx = (rs.take i).zipIdx ++ [(r, i)] := by
  have hi : i < rs.length := (List.getElem?_eq_some_iff.mp e).1
  rw [List.take_add_one, e, List.zipIdx_append]
  simp only [List.length_take, Nat.zero_add, Option.toList_some, List.zipIdx_cons, List.zipIdx_nil]
  rw [Nat.min_eq_left (Nat.le_of_lt hi)]
theorem goodL_take {F : List Str} {rs : List Row} {i : Nat} {r : Row} (e : rs[i]? = some r) : goodL F (rs.take (i + 1)) = goodL F (rs.take i) ++ (if goodB F r = true then [(r, i)] else []) := by
  unfold goodL
  rw [zip_take e, List.filter_append]
  congr 1
  rw [List.filter_cons]
  split <;> rfl
theorem goodL_len (F : List Str) (rs : List Row) : (goodL F rs).length ≤ rs.length := by
  have := List.length_filter_le (fun x => goodB F x.1) rs.zipIdx
  rw [List.length_zipIdx] at this
  exact this
theorem good_rows_sp {t : Str} {nms A : List Str} {rs : List Row} (U : Rul nms A t rs) {F : List Str} (hF : Srt (Fru rs) F) (hF6 : F.length ≤ 6) {h : Mh} {Q : Kd} (q : ∀ h', Kpa h h' → Q (.lst ((goodL F rs).map goodD)) h') : sp_good_rows [rulesD t rs] h Q := by
  refine ⟨rfl, ?_⟩
  refine seq_step ?_
  simp [-gSeq, -wFor, -wLc]
  refine fruitful_sp U fun f ys p2 h1 y1 y2 y3 y4 y5 y6 y7 => ?_
  have eF : ys = F := (srt_of y1 y2 y3 y4).one hF fun _ => Iff.rfl
  subst eF
  obtain ⟨R, W, hl, hn, ot⟩ := U
  refine seq_step ?_
  simp [-gSeq, -wFor, -wLc]
  intro p hp
  have np2 : p2 ≠ p := fun z => by rw [← z, y7] at hp; cases hp
  refine seq_step ?_
  unfold rulesD
  simp [-gSeq, -wFor, -wLc]
  refine wFor_inv _ (fun i ρ' h' => ∃ (a3 a4 a5 a6 : Option Dv), ρ' = [some (.tup [.str t, .tup (rs.map rowD)]), some (.ref p2), some (.ref p), a3, a4, a5, a6] ∧ h' = mput h1 p (.lst ((goodL ys (rs.take i)).map goodD))) _ _ (fun i d ρ' h' N hI hd hN => ?_) ⟨none, none, none, none, rfl, by simp [goodL]⟩ (fun ρ' h' hI => ?_)
  · obtain ⟨a3, a4, a5, a6, rfl, rfl⟩ := hI
    rw [numd_get, List.getElem?_map] at hd
    obtain ⟨d2, hd2, rfl⟩ := Option.map_eq_some_iff.mp hd
    obtain ⟨r, hr, rfl⟩ := Option.map_eq_some_iff.mp hd2
    have hm := List.mem_of_getElem? hr
    have b4 := R.bd r hm
    have gl := goodL_len ys (rs.take i)
    have tl : (rs.take i).length ≤ rs.length := by rw [List.length_take]; omega
    simp [ggCons, rowD, -gSeq, -wFor, -wLc, -isIn]
    refine ⟨_, _, ⟨rfl, rfl⟩, _, _, rfl, ?_⟩
    simp [ggCons, rowD, -gSeq, -wFor, -wLc, -isIn]
    refine ⟨_, _, ⟨rfl, rfl⟩, _, _, rfl, rfl, ?_⟩
    simp [-gSeq, -wFor, -wLc, -isIn]
    refine ⟨by omega, ?_⟩
    refine all_lc (ds := (r.1 :: r.2).map Dv.str) (fun d => !isName d || decide (strD d ∈ ys)) (fun d hd Q' R' z => ?_) (by simp only [List.length_map, List.length_cons]; rw [sizeLine_val]; omega) ?_
    · obtain ⟨w, hw, rfl⟩ := List.mem_map.mp hd
      have ow : OkW w := by
        rcases List.mem_cons.mp hw with rfl | hw
        · exact W.hd r hm
        · exact W.bd r hm w hw
      simp [-gSeq, -wFor, -wLc, -isIn]
      refine is_name_sp rfl (fun z e => by cases e; exact ow.sz) ?_
      change Q' (Dv.bl (!isName (.str w) || decide (w ∈ ys))) _ at z
      have e7 : mput h1 p (Mo.lst ((goodL ys (rs.take i)).map goodD)) p2 = some (.lst (ys.map Dv.str)) := by rw [mput_ne np2]; exact y7
      cases e : isName (.str w)
      · rw [e] at z
        simpa [-isIn] using z
      · rw [e] at z
        simp [-isIn]
        refine ⟨_, e7, (strs_dat ys).1, ?_⟩
        rw [isIn_strs]
        exact z
    · have eo : (((r.1 :: r.2).map Dv.str).all fun d => !isName d || decide (strD d ∈ ys)) = goodB ys r := by
        rw [List.all_map]
        exact good_all hF hm
      rw [eo]
      have eT := goodL_take (F := ys) hr
      cases ho : goodB ys r
      · rw [ho] at eT
        refine .inl ⟨rfl, hN _ _ ⟨_, _, _, _, rfl, ?_⟩⟩
        rw [eT, if_neg (by simp), List.append_nil]
      · rw [ho] at eT
        refine .inr ⟨rfl, ⟨_, mput_same⟩, _, mput_same, by rw [List.length_map]; omega, hN _ _ ⟨_, _, _, _, rfl, ?_⟩⟩
        rw [eT, if_pos rfl, mput_mput, List.map_append]
        rfl
  · obtain ⟨a3, a4, a5, a6, rfl, rfl⟩ := hI
    have el : (numd 0 (rs.map rowD)).length = rs.length := by rw [numd_len, List.length_map]
    rw [el, List.take_length]
    dsimp only
    simp [-gSeq]
    refine q _ ?_
    refine y6.trans ?_
    intro b m e
    have n : b ≠ p := fun z => by rw [z, hp] at e; cases e
    rw [mdel_ne n, mput_ne n]
    exact e
end L73

namespace L73
open PySem L2 G3
set_option exponentiation.threshold 4000
/-! ### the rules under their numbers -/
def numS (n : Nat) : Str := Str.ofString (toString (n : Int))
theorem numS_inj : ∀ n < 16, ∀ m < 16, numS n = numS m → n = m := by decide +kernel
def knownK (F : List Str) (rs : List Row) : List (Key × Dv) := (goodL F rs).map fun x => (.inr (numS x.2), goodD x)
theorem putD_new {κ : Type} [DecidableEq κ] {l : List (κ × Dv)} {k : κ} {d : Dv} (h : ∀ p ∈ l, p.1 ≠ k) : putD l k d = l ++ [(k, d)] := by
  unfold putD
  rw [if_neg]
  intro z
  obtain ⟨p, hp, e⟩ := List.any_eq_true.mp z
  exact h p hp (of_decide_eq_true e)
theorem goodL_ix {F : List Str} {rs : List Row} {x : Row × Nat} (h : x ∈ goodL F rs) : rs[x.2]? = some x.1 ∧ x.2 < rs.length := by
  have h1 := (List.mem_filter.mp h).1
  have e := List.mem_zipIdx_iff_getElem?.mp h1
  exact ⟨e, (List.getElem?_eq_some_iff.mp e).1⟩
theorem known_go {F : List Str} {R a1 a2 a3 a4 : Option Dv} {h : Mh} {Q : List (Key × Dv) → Mh → Prop} : ∀ (L acc : List (Row × Nat)), (∀ x ∈ L, x.2 < 16) → (∀ x ∈ acc, x.2 < 16) → (∀ x ∈ L, ∀ y ∈ acc, x.2 ≠ y.2) → L.Pairwise (fun x y => x.2 ≠ y.2) → acc.length + L.length ≤ 16 → Q ((acc ++ L).map fun x => (.inr (numS x.2), goodD x)) h →
    wDc [2, 3, 4] (ggTup 3 (ggCons (ggName 2) (ggCons (ggName 3) (ggCons (ggName 4) ggNil)))) gYes (gCall cStrI (gCons (gVar 2) gNil)) (gTup (gCons (gVar 2) (gCons (gVar 3) (gCons (gVar 4) gNil)))) [R, a1, a2, a3, a4] (L.map goodD) (acc.map fun x => (.inr (numS x.2), goodD x)) h Q
  | [], acc, _, _, _, _, _, q => by simpa using q
  | x :: L, acc, lx, la, ne, pw, hl, q => by
    obtain ⟨p1, p2⟩ := List.pairwise_cons.mp pw
    have x16 := lx x List.mem_cons_self
    rw [List.length_cons] at hl
    rw [List.map_cons, wDc]
    simp [-wDc, ggCons, goodD]
    refine ⟨_, _, ⟨rfl, rfl⟩, _, _, rfl, _, _, rfl, rfl, ?_⟩
    refine ⟨_, rfl, ?_, .inr (numS x.2), rfl, by omega, ?_⟩
    · have : (x.2 : Int).natAbs.log2 < 1920 := by
        by_cases z : x.2 = 0
        · rw [z]; decide
        · exact (Nat.log2_lt (by simpa using z)).mpr (Nat.lt_of_lt_of_le (by simpa using x16) (Nat.le_trans (by decide : 16 ≤ 2 ^ 4) (Nat.pow_le_pow_right (by decide) (by decide))))
      exact this
    · have e : putD (acc.map fun x => ((.inr (numS x.2) : Key), goodD x)) (.inr (numS x.2)) (.tup [.int x.2, .str x.1.1, .tup (x.1.2.map Dv.str)]) = (acc ++ [x]).map fun x => ((.inr (numS x.2) : Key), goodD x) := by
        rw [putD_new (fun p hp => ?_), List.map_append]
        · rfl
        · obtain ⟨y, hy, rfl⟩ := List.mem_map.mp hp
          intro z
          exact ne x List.mem_cons_self y hy (numS_inj _ x16 _ (la y hy) (Sum.inr.inj z).symm)
      have := known_go (F := F) (R := R) (a1 := a1) (a2 := a2) (a3 := a3) (a4 := a4) L (acc ++ [x]) (fun y hy => lx y (List.mem_cons_of_mem _ hy)) (fun y hy => by
        rcases List.mem_append.mp hy with hy | hy
        · exact la y hy
        · rw [List.mem_singleton.mp hy]; exact x16) (fun y hy z hz => by
        rcases List.mem_append.mp hz with hz | hz
        · exact ne y (List.mem_cons_of_mem _ hy) z hz
        · rw [List.mem_singleton.mp hz]; exact (p1 y hy).symm) p2 (by rw [List.length_append, List.length_singleton]; omega) (by rw [List.append_assoc]; exact q)
      rw [← e] at this
      exact this
end L73

namespace L73
open PySem L2 G3
set_option exponentiation.threshold 4000
/-! ### a tree as far as it is read -/
structure Knt where
  n : Nat
  b : List Str
  ks : List Dv
structure Cst where
  ks : List Knt
  hd : Option Str
  bg : Bool
  rt : Option Dv
def kdone (k : Knt) : Dv := .tup [.int k.n, .tup k.ks]
def findG (G : List (Row × Nat)) (w : Str) : Option (Row × Nat) := G.find? fun x => decide (numS x.2 = w)
def begs (G : List (Row × Nat)) (w : Str) (hd : Option Str) (s : Cst) : Option Cst := if w = "[" ∧ G ≠ [] then some { s with hd := hd, bg := true } else none
def popS (s : Cst) (k : Knt) : List Knt → Cst
  | [] => { s with ks := [], rt := some (kdone k) }
  | k2 :: t2 => { s with ks := { k2 with ks := k2.ks ++ [kdone k] } :: t2 }
def step (G : List (Row × Nat)) (s : Cst) (w : Str) : Option Cst := match s.rt with
  | some _ => none
  | none => match s.bg with
    | true => match findG G w with
      | none => none
      | some x => if s.hd = none ∨ s.hd = some x.1.1 then some { s with ks := ⟨x.2, x.1.2, []⟩ :: s.ks, bg := false } else none
    | false => match s.ks with
      | [] => begs G w none s
      | k :: t => match k.b[k.ks.length]? with
        | none => if w = "]" then some (popS s k t) else none
        | some u => if isName (.str u) = true then begs G w (some u) s else if w = u then some { s with ks := { k with ks := k.ks ++ [.str w] } :: t } else none
def optS : Option Str → Dv
  | none => .non
  | some w => .str w
def optD : Option Dv → Dv
  | none => .non
  | some d => d
def cF (dk rk : Addr) (hd : Dv) (bg : Bool) (rt : Dv) : List (Str × Dv) := [("known", .ref dk), ("knots", .ref rk), ("head", hd), ("begun", .bl bg), ("root", rt)]
section
variable {dk rk : Addr} {hd rt v : Dv} {bg : Bool}
@[simp] theorem l_known : (cF dk rk hd bg rt).lookup ("known" : Str) = some (.ref dk) := rfl
@[simp] theorem l_knots : (cF dk rk hd bg rt).lookup ("knots" : Str) = some (.ref rk) := rfl
@[simp] theorem l_head : (cF dk rk hd bg rt).lookup ("head" : Str) = some hd := rfl
@[simp] theorem l_begun : (cF dk rk hd bg rt).lookup ("begun" : Str) = some (.bl bg) := rfl
@[simp] theorem l_root : (cF dk rk hd bg rt).lookup ("root" : Str) = some rt := rfl
@[simp] theorem l_m1 : (cF dk rk hd bg rt).lookup ("takes_rule" : Str) = none := rfl
@[simp] theorem l_m2 : (cF dk rk hd bg rt).lookup ("begins" : Str) = none := rfl
@[simp] theorem l_m3 : (cF dk rk hd bg rt).lookup ("ends" : Str) = none := rfl
@[simp] theorem l_m4 : (cF dk rk hd bg rt).lookup ("takes" : Str) = none := rfl
@[simp] theorem p_head : putFd "head" v (cF dk rk hd bg rt) = cF dk rk v bg rt := rfl
@[simp] theorem p_begun {x : Bool} : putFd "begun" (.bl x) (cF dk rk hd bg rt) = cF dk rk hd x rt := rfl
@[simp] theorem p_root : putFd "root" v (cF dk rk hd bg rt) = cF dk rk hd bg v := rfl
@[simp] theorem cF_len : (cF dk rk hd bg rt).length = 5 := rfl
end
@[simp] theorem f_known : hasF itb "Climb" "known" = true := by decide +kernel
@[simp] theorem f_knots : hasF itb "Climb" "knots" = true := by decide +kernel
@[simp] theorem f_head : hasF itb "Climb" "head" = true := by decide +kernel
@[simp] theorem f_begun : hasF itb "Climb" "begun" = true := by decide +kernel
@[simp] theorem f_root : hasF itb "Climb" "root" = true := by decide +kernel
def cell (x : Knt × Addr) : Dv := .tup [.int x.1.n, .tup (x.1.b.map Dv.str), .ref x.2]
structure CO (G : List (Row × Nat)) (h0 h : Mh) (p dk rk : Addr) (kas : List (Knt × Addr)) (s : Cst) (j : Nat) : Prop where
  hp : h p = some (.ins "Climb" (cF dk rk (optS s.hd) s.bg (optD s.rt)))
  hdk : h dk = some (.dK (G.map fun x => (.inr (numS x.2), goodD x)))
  hrk : h rk = some (.lst (kas.reverse.map cell))
  eks : s.ks = kas.map Prod.fst
  kid : ∀ x ∈ kas, h x.2 = some (.lst x.1.ks) ∧ x.2 ≠ rk ∧ h0 x.2 = none
  nd : (kas.map Prod.snd).Nodup
  wb : ∀ x ∈ kas, x.1.b.length ≤ 4 ∧ x.1.ks.length ≤ x.1.b.length
  jl : kas.length ≤ j
  np : h0 p = none
  nrk : h0 rk = none
  sub : Kpa h0 h
  rtd : ∀ d, s.rt = some d → ∃ ks, d = .tup ks
theorem ne_mo {h : Mh} {p q : Addr} {m m' : Mo} (hp : h p = some m) (hq : h q = some m') (n : m ≠ m') : p ≠ q := fun z => n (by rw [z, hq] at hp; exact (Option.some.inj hp).symm)
section
variable {G : List (Row × Nat)} {h0 h : Mh} {p dk rk : Addr} {kas : List (Knt × Addr)} {s : Cst} {j : Nat}
theorem CO.npd (R : CO G h0 h p dk rk kas s j) : p ≠ dk ∧ p ≠ rk ∧ dk ≠ rk ∧ ∀ x ∈ kas, p ≠ x.2 ∧ dk ≠ x.2 ∧ rk ≠ x.2 :=
  ⟨ne_mo R.hp R.hdk (by simp), ne_mo R.hp R.hrk (by simp), ne_mo R.hdk R.hrk (by simp), fun x hx => ⟨ne_mo R.hp (R.kid x hx).1 (by simp), ne_mo R.hdk (R.kid x hx).1 (by simp), Ne.symm (R.kid x hx).2.1⟩⟩
theorem CO.put (R : CO G h0 h p dk rk kas s j) (hd : Option Str) (bg : Bool) (rt : Option Dv) (hr : ∀ d, rt = some d → ∃ ks, d = .tup ks) : CO G h0 (mput h p (.ins "Climb" (cF dk rk (optS hd) bg (optD rt)))) p dk rk kas { ks := s.ks, hd := hd, bg := bg, rt := rt } j := by
  obtain ⟨n1, n2, n3, n4⟩ := R.npd
  exact { hp := mput_same, hdk := by rw [mput_ne (Ne.symm n1)]; exact R.hdk, hrk := by rw [mput_ne (Ne.symm n2)]; exact R.hrk, eks := R.eks, kid := fun x hx => ⟨by rw [mput_ne (Ne.symm (n4 x hx).1)]; exact (R.kid x hx).1, (R.kid x hx).2⟩, nd := R.nd, wb := R.wb, jl := R.jl, np := R.np, nrk := R.nrk, sub := R.sub.new R.np _, rtd := hr }
theorem CO.new (R : CO G h0 h p dk rk kas s j) {a : Addr} (ha : h a = none) (o : Mo) : CO G h0 (mput h a o) p dk rk kas s j := by
  have ne : ∀ {q m}, h q = some m → q ≠ a := fun e z => by rw [z, ha] at e; cases e
  exact { hp := by rw [mput_ne (ne R.hp)]; exact R.hp, hdk := by rw [mput_ne (ne R.hdk)]; exact R.hdk, hrk := by rw [mput_ne (ne R.hrk)]; exact R.hrk, eks := R.eks, kid := fun x hx => ⟨by rw [mput_ne (ne (R.kid x hx).1)]; exact (R.kid x hx).1, (R.kid x hx).2⟩, nd := R.nd, wb := R.wb, jl := R.jl, np := R.np, nrk := R.nrk, sub := R.sub.new (R.sub.none ha) _, rtd := R.rtd }
theorem begins_sp {w : Str} {hd : Option Str} {Q : Kd} (R : CO G h0 h p dk rk kas s j) (hw : w.length ≤ sizeLine) (hrt : s.rt = none)
    (q0 : begs G w hd s = none → ∀ h', Kpa h0 h' → Q (.bl false) h') (q1 : ∀ t h', begs G w hd s = some t → CO G h0 h' p dk rk kas t j → Q (.bl true) h') : sp_Climb_begins [.ref p, .str w, optS hd] h Q := by
  refine ⟨rfl, ?_⟩
  refine seq_step ?_
  have hp := R.hp
  simp [-gSeq, -List.lookup_eq_none_iff, hp, and_assoc]
  have R1 := R.put hd s.bg s.rt R.rtd
  generalize (mput h p (.ins "Climb" (cF dk rk (optS hd) s.bg (optD s.rt)))) = h1 at R1 ⊢
  have hp1 := R1.hp
  have hd1 := R1.hdk
  refine seq_step ?_
  obtain ⟨ks, hds, bg, rt⟩ := s
  simp only at hrt R1 hp1
  subst hrt
  simp [-gSeq, -List.lookup_eq_none_iff, hp1, hd1, and_assoc]
  by_cases hw2 : w = "["
  · have hw2' : w = Str.ofString "[" := hw2
    rw [if_pos hw2']
    intro a ha
    have R2 := R1.new ha (.dK [])
    have hp2 := R2.hp
    have hd2 := R2.hdk
    refine ⟨dk, a, _, [], rfl, rfl, hd2, mput_same, .inr rfl, ?_⟩
    simp [-List.lookup_eq_none_iff, hp2, and_assoc]
    have R3 := R2.put hd (!G.isEmpty) none (fun d e => by cases e)
    cases hG : G with
    | nil =>
      subst hG
      exact q0 (by simp [begs]) _ R3.sub
    | cons g G' =>
      rw [hG] at R3
      have := q1 _ _ (by simp only [begs]; rw [if_pos ⟨hw2, by rw [hG]; simp⟩]) (by rw [hG]; exact R3)
      simpa using this
  · have hw2' : ¬ w = Str.ofString "[" := hw2
    rw [if_neg hw2']
    exact q0 (by simp only [begs]; rw [if_neg fun z => hw2 z.1]) _ (R1.put hd false none (fun d e => by cases e)).sub
theorem CO.knots (R : CO G h0 h p dk rk kas s j) (kas' : List (Knt × Addr)) (j' : Nat) (hk : ∀ x ∈ kas', h x.2 = some (.lst x.1.ks) ∧ x.2 ≠ rk ∧ h0 x.2 = none) (nd : (kas'.map Prod.snd).Nodup) (wb : ∀ x ∈ kas', x.1.b.length ≤ 4 ∧ x.1.ks.length ≤ x.1.b.length) (jl : kas'.length ≤ j') : CO G h0 (mput h rk (.lst (kas'.reverse.map cell))) p dk rk kas' { s with ks := kas'.map Prod.fst } j' := by
  obtain ⟨n1, n2, n3, n4⟩ := R.npd
  exact { hp := by rw [mput_ne n2]; exact R.hp, hdk := by rw [mput_ne n3]; exact R.hdk, hrk := mput_same, eks := rfl, kid := fun x hx => ⟨by rw [mput_ne (hk x hx).2.1]; exact (hk x hx).1, (hk x hx).2⟩, nd := nd, wb := wb, jl := jl, np := R.np, nrk := R.nrk, sub := R.sub.new R.nrk _, rtd := R.rtd }
theorem CO.kid1 {k : Knt} {a : Addr} {t : List (Knt × Addr)} (R : CO G h0 h p dk rk ((k, a) :: t) s j) (d : Dv) (kl : k.ks.length < k.b.length) : CO G h0 (mput h a (.lst (k.ks ++ [d]))) p dk rk (({ k with ks := k.ks ++ [d] }, a) :: t) { s with ks := { k with ks := k.ks ++ [d] } :: t.map Prod.fst } j := by
  obtain ⟨n1, n2, n3, n4⟩ := R.npd
  obtain ⟨m1, m2, m3⟩ := n4 (k, a) List.mem_cons_self
  obtain ⟨b1, b2⟩ := R.wb (k, a) List.mem_cons_self
  obtain ⟨c1, c2, c3⟩ := R.kid (k, a) List.mem_cons_self
  obtain ⟨nd1, nd2⟩ := List.nodup_cons.mp R.nd
  exact { hp := by rw [mput_ne m1]; exact R.hp, hdk := by rw [mput_ne m2]; exact R.hdk, hrk := by rw [mput_ne m3, R.hrk]; simp [cell], eks := rfl, kid := fun x hx => by
            rcases List.mem_cons.mp hx with rfl | hx
            · exact ⟨mput_same, c2, c3⟩
            · have ne : x.2 ≠ a := fun z => nd1 (List.mem_map.mpr ⟨x, hx, z⟩)
              rw [mput_ne ne]
              exact R.kid x (List.mem_cons_of_mem _ hx), nd := R.nd, wb := fun x hx => by
            rcases List.mem_cons.mp hx with rfl | hx
            · exact ⟨b1, by simp only [List.length_append, List.length_singleton]; exact kl⟩
            · exact R.wb x (List.mem_cons_of_mem _ hx), jl := R.jl, np := R.np, nrk := R.nrk, sub := R.sub.new c3 _, rtd := R.rtd }
theorem atI_last (l : List Dv) (c : Dv) : atI (l ++ [c]) (-1) = some c := by
  simp [atI, ixN]
  rw [if_pos (by omega)]
  have : (-1 + ((l.length : Int) + 1)).toNat = l.length := by omega
  simp [this]
theorem val_G (w : Str) : ∀ G : List (Row × Nat), valD (G.map fun x => ((.inr (numS x.2) : Key), goodD x)) (.inr w) = (findG G w).map goodD
  | [] => rfl
  | x :: G => by
    have ih := val_G w G
    unfold valD findG at ih ⊢
    rw [List.map_cons, List.find?_cons, List.find?_cons]
    by_cases e : numS x.2 = w
    · subst e
      simp
    · have : decide ((Sum.inr (numS x.2) : Key) = Sum.inr w) = false := by simpa using e
      have e2 : decide (numS x.2 = w) = false := by simpa using e
      simp only [this, e2]
      exact ih
theorem takes_rule_sp {w : Str} {Q : Kd} (R : CO G h0 h p dk rk kas s j) (hw : w.length ≤ sizeLine) (hrt : s.rt = none) (hbg : s.bg = true) (hj : j < sizeLine) (hb : ∀ x ∈ G, x.1.2.length ≤ 4)
    (q0 : step G s w = none → ∀ h', Kpa h0 h' → Q (.bl false) h') (q1 : ∀ t h' kas', step G s w = some t → CO G h0 h' p dk rk kas' t (j + 1) → Q (.bl true) h') : sp_Climb_takes_rule [.ref p, .str w] h Q := by
  refine ⟨rfl, ?_⟩
  refine seq_step ?_
  have hp := R.hp
  have hd := R.hdk
  have hr := R.hrk
  obtain ⟨ks, hds, bg, rt⟩ := s
  simp only at hrt hbg
  subst hrt
  subst hbg
  have vG := val_G w G
  simp [-gSeq, -List.lookup_eq_none_iff, hp, and_assoc]
  have hg := DGetD.k (k := .inr w) (.inl hd)
  rw [vG] at hg
  have hgk : DGetD h (.ref dk) (.str w) ((findG G w).map goodD) := hg
  clear hg
  cases hf : findG G w with
  | none =>
    rw [hf] at hgk
    refine ⟨none, hgk, ?_⟩
    rw [if_pos rfl]
    exact q0 (by simp [step, hf]) _ R.sub
  | some x =>
    rw [hf] at hgk
    have hgk : DGetD h (.ref dk) (.str w) (some (goodD x)) := hgk
    refine ⟨some (goodD x), hgk, ?_⟩
    rw [if_neg (by simp)]
    refine ⟨goodD x, hgk, ?_⟩
    have rest : (hds = none ∨ hds = some x.1.1) → gSeq (gAsg (gDGet (gFld itb (Str.ofString "known") (gVar 0)) (gVar 1)) (ggTup 3 (ggCons (ggName 2) (ggCons (ggName 3) (ggCons (ggName 4) ggNil)))))
        (gSeq (gDrop (gBM "list" mAppend (gFld itb (Str.ofString "knots") (gVar 0)) (G3.gCons (G3.gTup (G3.gCons (gVar 2) (G3.gCons (gVar 4) (G3.gCons (gMLst G3.gNil) G3.gNil)))) G3.gNil)))
          (gSeq (gSetF itb (Str.ofString "begun") (gVar 0) (gC (Dv.bl false))) (gRet (gC (Dv.bl true)))))
        { nx := fun x h' => Q Dv.non h', rt := Q } [some (Dv.ref p), some (Dv.str w), none, none, none] h := fun hh => by
      refine seq_step ?_
      simp [-gSeq, -List.lookup_eq_none_iff, hp, and_assoc]
      refine ⟨_, hgk, ?_⟩
      simp [-gSeq, goodD, ggCons]
      refine ⟨_, _, ⟨rfl, rfl⟩, _, _, rfl, _, _, rfl, rfl, ?_⟩
      refine seq_step ?_
      simp [-gSeq, -List.lookup_eq_none_iff, hp, and_assoc]
      refine ⟨⟨_, hr⟩, fun a ha => ?_⟩
      have nra : rk ≠ a := fun z => by rw [← z, hr] at ha; cases ha
      refine ⟨_, (mput_ne nra).trans hr, by have := R.jl; rw [List.length_map, List.length_reverse]; unfold sizeLine at hj; omega, ?_⟩
      have R1 := R.new ha (.lst [])
      have R2 := R1.knots ((⟨x.2, x.1.2, []⟩, a) :: kas) (j + 1) (fun y hy => by
        rcases List.mem_cons.mp hy with rfl | hy
        · exact ⟨mput_same, Ne.symm nra, R.sub.none ha⟩
        · exact R1.kid y hy) (by
        rw [List.map_cons]
        refine List.nodup_cons.mpr ⟨fun z => ?_, R.nd⟩
        obtain ⟨y, hy, e⟩ := List.mem_map.mp z
        have := (R.kid y hy).1
        rw [e] at this
        simp only at this
        rw [ha] at this
        cases this) (fun y hy => by
        rcases List.mem_cons.mp hy with rfl | hy
        · exact ⟨hb x (List.mem_of_find?_eq_some hf), Nat.zero_le _⟩
        · exact R.wb y hy) (by have := R.jl; rw [List.length_cons]; omega)
      have el : kas.reverse.map cell ++ [Dv.tup [Dv.int ↑x.snd, Dv.tup (List.map Dv.str x.fst.snd), Dv.ref a]] = (((⟨x.2, x.1.2, []⟩, a) : Knt × Addr) :: kas).reverse.map cell := by
        rw [List.reverse_cons, List.map_append]
        rfl
      rw [el]
      have hp2 := R2.hp
      refine seq_step ?_
      simp [-gSeq, -List.lookup_eq_none_iff, hp2, and_assoc, -List.reverse_cons, -List.map_reverse]
      have R3 := R2.put hds false none (fun d e => by cases e)
      exact q1 _ _ _ (by simp only [step, hf]; rw [if_pos hh]; rw [show ks = kas.map Prod.fst from R.eks]; rfl) R3
    simp [-gSeq, goodD]
    cases hds with
    | none => exact ⟨rfl, by decide, .inl ⟨fun z => (by cases z), rest (.inl rfl)⟩⟩
    | some v =>
      refine ⟨rfl, Nat.zero_le _, ?_⟩
      by_cases e : x.1.1 = v
      · exact .inl ⟨fun _ => by simpa [optS] using e, rest (.inr (by rw [e]))⟩
      · refine .inr ⟨rfl, by simpa [optS] using e, q0 ?_ _ R.sub⟩
        simp only [step, hf]
        rw [if_neg]
        rintro (z | z)
        · cases z
        · exact e (Option.some.inj z).symm
theorem ends_sp {Q : Kd} {k : Knt} {a : Addr} {t : List (Knt × Addr)} (R : CO G h0 h p dk rk ((k, a) :: t) s j) (hrt : s.rt = none)
    (hd1 : ∀ k2 a2 t2, t = (k2, a2) :: t2 → k2.ks.length < k2.b.length)
    (q1 : ∀ h' kas', CO G h0 h' p dk rk kas' (popS s k (t.map Prod.fst)) j → Q (.bl true) h') : sp_Climb_ends [.ref p] h Q := by
  refine ⟨rfl, ?_⟩
  have hp := R.hp
  have hr := R.hrk
  have hka := R.kid (k, a) List.mem_cons_self
  have ea : ((k, a) :: t).reverse.map cell = t.reverse.map cell ++ [cell (k, a)] := by rw [List.reverse_cons, List.map_append]; rfl
  rw [ea] at hr
  obtain ⟨nd1, nd2⟩ := List.nodup_cons.mp R.nd
  have R1 := R.knots t j (fun y hy => R.kid y (List.mem_cons_of_mem _ hy)) nd2 (fun y hy => R.wb y (List.mem_cons_of_mem _ hy)) (by have := R.jl; rw [List.length_cons] at this; omega)
  refine seq_step ?_
  simp [-gSeq, -List.lookup_eq_none_iff, hp, and_assoc, -List.map_reverse]
  refine ⟨⟨_, hr⟩, rk, _, cell (k, a), rfl, rfl, hr, by simp, ?_⟩
  rw [List.dropLast_concat]
  generalize hh1 : mput h rk (Mo.lst (t.reverse.map cell)) = h1 at R1 ⊢
  have hka1 : h1 a = some (.lst k.ks) := by rw [← hh1, mput_ne hka.2.1]; exact hka.1
  have hp1 := R1.hp
  have hr1 := R1.hrk
  simp only [cell]
  simp [-gSeq, ggCons]
  refine ⟨_, _, ⟨rfl, rfl⟩, _, _, rfl, _, _, rfl, rfl, ?_⟩
  obtain ⟨ks, hds, bg, rt⟩ := s
  simp only at hrt
  subst hrt
  cases t with
  | nil =>
    refine seq_step ?_
    simp [-gSeq, -List.lookup_eq_none_iff, hp1, and_assoc, -List.map_reverse]
    have hr1 : h1 rk = some (.lst []) := hr1
    refine ⟨[], [], by simp [lstOf, hr1], rfl, .inr rfl, .inr ⟨rfl, _, hka1, _, _, hp1, by simp, by simp, ?_⟩⟩
    exact q1 _ [] (R1.put hds bg (some (kdone k)) (fun d e => ⟨_, (Option.some.inj e).symm⟩))
  | cons y t2 =>
    obtain ⟨k2, a2⟩ := y
    refine seq_step ?_
    simp [-gSeq, -List.lookup_eq_none_iff, hp1, and_assoc, -List.map_reverse]
    have ha2 := (R1.kid (k2, a2) List.mem_cons_self).1
    have ne2 := (R1.kid (k2, a2) List.mem_cons_self).2
    have ea2 : ((k2, a2) :: t2).reverse.map cell = t2.reverse.map cell ++ [cell (k2, a2)] := by rw [List.reverse_cons, List.map_append]; rfl
    rw [ea2] at hr1
    refine ⟨_, [], (by simp only [lstOf, hr1] : lstOf h1 (.ref rk) = some (t2.reverse.map cell ++ [cell (k2, a2)])), rfl, .inr rfl, .inl ⟨by simp, _, _, hp1, by simp, _, rfl, ?_⟩⟩
    rw [rIx_ref]
    refine ⟨_, hr1, cell (k2, a2), atI_last _ _, ?_⟩
    have ks4 := (R.wb (k2, a2) (List.mem_cons_of_mem _ List.mem_cons_self)).1
    have kl := hd1 k2 a2 t2 rfl
    have R2 := R1.kid1 (kdone k) kl
    simp only [cell]
    simp [-gSeq, lstOf, hka1, ha2]
    exact ⟨by simp only at ks4; omega, q1 _ _ R2⟩
structure CWf (s : Cst) : Prop where
  up : ∀ x ∈ s.ks.tail, x.ks.length < x.b.length
  ub : s.bg = true → ∀ x ∈ s.ks, x.ks.length < x.b.length
  sz : ∀ k ∈ s.ks, ∀ u ∈ k.b, u.length ≤ sizeLine
theorem begs_some {G : List (Row × Nat)} {w : Str} {hd : Option Str} {s t : Cst} (e : begs G w hd s = some t) : t = { s with hd := hd, bg := true } ∧ w = "[" ∧ G ≠ [] := by
  unfold begs at e
  split at e
  · rename_i z
    exact ⟨(Option.some.inj e).symm, z⟩
  · cases e
theorem step_wf {w : Str} {t : Cst} (W : CWf s) (hg : ∀ x ∈ G, ∀ u ∈ x.1.2, u.length ≤ sizeLine) (e : step G s w = some t) : CWf t := by
  obtain ⟨ks, hd, bg, rt⟩ := s
  obtain ⟨up, ub, sz⟩ := W
  simp only at up ub sz
  cases rt with
  | some d => cases e
  | none =>
    cases bg with
    | true =>
      simp only [step] at e
      cases hf : findG G w with
      | none => rw [hf] at e; cases e
      | some x =>
        rw [hf] at e
        simp only at e
        split at e
        · cases e
          refine ⟨ub rfl, fun z => (by cases z), fun k hk u hu => ?_⟩
          rcases List.mem_cons.mp hk with rfl | hk
          · exact hg x (List.mem_of_find?_eq_some hf) u hu
          · exact sz k hk u hu
        · cases e
    | false =>
      cases ks with
      | nil =>
        obtain ⟨rfl, _⟩ := begs_some (s := ⟨[], hd, false, none⟩) (hd := none) e
        exact ⟨fun x hx => (by cases hx), fun _ x hx => (by cases hx), fun x hx => (by cases hx)⟩
      | cons k ks =>
        simp only [step] at e
        cases hu : k.b[k.ks.length]? with
        | none =>
          rw [hu] at e
          simp only at e
          split at e
          · cases e
            cases ks with
            | nil => exact ⟨fun x hx => (by cases hx), fun _ x hx => (by cases hx), fun x hx => (by cases hx)⟩
            | cons k2 ks =>
              refine ⟨fun x hx => up x (List.mem_cons_of_mem _ hx), fun z => (by cases z), fun x hx u hu => ?_⟩
              rcases List.mem_cons.mp hx with rfl | hx
              · exact sz k2 (List.mem_cons_of_mem _ List.mem_cons_self) u hu
              · exact sz x (List.mem_cons_of_mem _ (List.mem_cons_of_mem _ hx)) u hu
          · cases e
        | some u =>
          rw [hu] at e
          simp only at e
          have hlt : k.ks.length < k.b.length := (List.getElem?_eq_some_iff.mp hu).1
          split at e
          · obtain ⟨rfl, _⟩ := begs_some e
            refine ⟨up, fun _ x hx => ?_, sz⟩
            rcases List.mem_cons.mp hx with rfl | hx
            · exact hlt
            · exact up x hx
          · split at e
            · cases e
              refine ⟨up, fun z => (by cases z), fun x hx u hu => ?_⟩
              rcases List.mem_cons.mp hx with rfl | hx
              · exact sz k List.mem_cons_self u hu
              · exact sz x (List.mem_cons_of_mem _ hx) u hu
            · cases e
theorem takes_sp {w : Str} {Q : Kd} (R : CO G h0 h p dk rk kas s j) (hw : w.length ≤ sizeLine) (hj : j < sizeLine) (hb : ∀ x ∈ G, x.1.2.length ≤ 4) (W : CWf s)
    (q0 : step G s w = none → ∀ h', Kpa h0 h' → Q (.bl false) h') (q1 : ∀ t h' kas', step G s w = some t → CO G h0 h' p dk rk kas' t (j + 1) → Q (.bl true) h') : sp_Climb_takes [.ref p, .str w] h Q := by
  refine ⟨rfl, ?_⟩
  have hp := R.hp
  have hr := R.hrk
  have q2 : ∀ t h' kas', step G s w = some t → CO G h0 h' p dk rk kas' t j → Q (.bl true) h' := fun t h' kas' e c => q1 t h' kas' e { c with jl := Nat.le_succ_of_le c.jl }
  refine seq_step ?_
  simp [-gSeq, -List.lookup_eq_none_iff, hp, and_assoc, -List.map_reverse]
  cases hrt : s.rt with
  | some d =>
    obtain ⟨ks, rfl⟩ := R.rtd d hrt
    exact .inr ⟨rfl, q0 (by simp only [step, hrt]) _ R.sub⟩
  | none =>
    refine .inl ⟨rfl, ?_⟩
    refine seq_step ?_
    simp [-gSeq, -List.lookup_eq_none_iff, hp, and_assoc, -List.map_reverse]
    cases hbg : s.bg with
    | true =>
      simp [-gSeq]
      exact takes_rule_sp R hw hrt hbg hj hb q0 q1
    | false =>
      simp [-gSeq]
      refine seq_step ?_
      simp [-gSeq, -List.lookup_eq_none_iff, hp, and_assoc, -List.map_reverse]
      cases kas with
      | nil =>
        have ek : s.ks = [] := R.eks
        have hr : h rk = some (.lst []) := hr
        have es : step G s w = begs G w none s := by simp only [step, hrt, hbg, ek]
        rw [es] at q0 q2
        refine ⟨[], [], by simp [lstOf, hr], rfl, .inr rfl, .inr ⟨rfl, ?_⟩⟩
        exact ⟨_, hp, rfl, begins_sp (hd := none) R hw hrt q0 fun t h' e c => q2 t h' _ e c⟩
      | cons ka t =>
        obtain ⟨k, a⟩ := ka
        have ek : s.ks = k :: t.map Prod.fst := R.eks
        have ea : ((k, a) :: t).reverse.map cell = t.reverse.map cell ++ [cell (k, a)] := by rw [List.reverse_cons, List.map_append]; rfl
        rw [ea] at hr
        obtain ⟨ha, nra, ha0⟩ := R.kid (k, a) List.mem_cons_self
        obtain ⟨kb, kk⟩ := R.wb (k, a) List.mem_cons_self
        refine ⟨_, [], (by simp only [lstOf, hr] : lstOf h (.ref rk) = some (t.reverse.map cell ++ [cell (k, a)])), rfl, .inr rfl, .inl ⟨by simp, ?_⟩⟩
        refine seq_step ?_
        simp [-gSeq, -List.lookup_eq_none_iff, hp, and_assoc, -List.map_reverse]
        refine ⟨_, hr, cell (k, a), atI_last _ _, ?_⟩
        simp only [cell]
        simp [-gSeq, ggCons]
        refine ⟨_, _, ⟨rfl, rfl⟩, _, _, rfl, _, _, rfl, rfl, ?_⟩
        refine seq_step ?_
        simp only at ha kb kk
        simp [-gSeq, -List.lookup_eq_none_iff, ha]
        by_cases hl : k.ks.length = k.b.length
        · rw [if_pos (by omega)]
          have eu : k.b[k.ks.length]? = none := List.getElem?_eq_none (by omega)
          by_cases hw2 : w = "]"
          · rw [if_pos hw2]
            have es : step G s w = some (popS s k (t.map Prod.fst)) := by simp only [step, hrt, hbg, ek, eu]; rw [if_pos hw2]
            refine ⟨_, hp, rfl, ?_⟩
            exact ends_sp R hrt (fun k2 a2 t2 e => W.up k2 (by rw [ek, e]; exact List.mem_cons_self)) fun h' kas' c => q2 _ h' kas' es c
          · rw [if_neg hw2]
            exact q0 (by simp only [step, hrt, hbg, ek, eu]; rw [if_neg hw2]) _ R.sub
        · rw [if_neg (by omega)]
          have hlt : k.ks.length < k.b.length := by omega
          obtain ⟨u, hu⟩ : ∃ u, k.b[k.ks.length]? = some u := ⟨_, List.getElem?_eq_getElem hlt⟩
          have hum : u ∈ k.b := List.mem_of_getElem? hu
          have hux : atI (k.b.map Dv.str) (k.ks.length : Int) = some (.str u) := by
            simp [atI, ixN, hlt]
            exact (List.getElem?_eq_some_iff.mp hu).2
          have hua : atI k.b (k.ks.length : Int) = some u := by
            simp [atI, ixN, hlt]
            exact (List.getElem?_eq_some_iff.mp hu).2
          refine seq_step ?_
          simp [-gSeq, -List.lookup_eq_none_iff, ha, hux]
          refine is_name_sp rfl (fun z e => by cases e; exact W.sz k (by rw [ek]; exact List.mem_cons_self) u hum) ?_
          by_cases hn : isName (.str u) = true
          · have es : step G s w = begs G w (some u) s := by simp only [step, hrt, hbg, ek, hu]; rw [if_pos hn]
            rw [es] at q0 q2
            rw [hn]
            refine .inr ⟨rfl, _, hp, rfl, _, ha, .str u, ?_, begins_sp (hd := some u) R hw hrt q0 fun t h' e c => q2 t h' _ e c⟩
            exact ⟨u, hua, rfl⟩
          · have hn := Bool.eq_false_iff.mpr hn
            rw [hn]
            refine .inl ⟨rfl, ?_⟩
            refine seq_step ?_
            simp [-gSeq, -List.lookup_eq_none_iff, ha]
            refine ⟨by omega, .str u, ⟨u, hua, rfl⟩, ⟨rfl, Nat.zero_le _⟩, ?_⟩
            have R2 := R.kid1 (.str w) hlt
            simp only at R2 ⊢
            by_cases hwu : w = u
            · rw [show (w == u) = true from by simpa using hwu]
              exact q2 _ _ _ (by simp only [step, hrt, hbg, ek, hu]; rw [if_neg (by rw [hn]; exact Bool.false_ne_true), if_pos hwu]) R2
            · rw [show (w == u) = false from by simpa using hwu]
              exact q0 (by simp only [step, hrt, hbg, ek, hu]; rw [if_neg (by rw [hn]; exact Bool.false_ne_true), if_neg hwu]) _ R2.sub
end
end L73

namespace L73
open PySem L2 G3
set_option exponentiation.threshold 4000
def c0 : Cst := ⟨[], none, false, none⟩
theorem goodL_pw (F : List Str) (rs : List Row) : (goodL F rs).Pairwise fun x y => x.2 ≠ y.2 := by
  unfold goodL
  refine List.Pairwise.filter _ ?_
  have : (rs.zipIdx.map Prod.snd).Pairwise (· ≠ ·) := by
    rw [List.zipIdx_map_snd]
    exact List.nodup_range'
  exact List.pairwise_map.mp this
theorem ne_new {h : Mh} {p r : Addr} {m : Mo} (hp : h p = some m) (hr : h r = none) : p ≠ r := fun z => by rw [z, hr] at hp; cases hp
@[simp] theorem q_0_1 : (Str.ofString "known" = Str.ofString "knots") = False := eq_false (by decide)
@[simp] theorem q_0_2 : (Str.ofString "known" = Str.ofString "head") = False := eq_false (by decide)
@[simp] theorem q_0_3 : (Str.ofString "known" = Str.ofString "begun") = False := eq_false (by decide)
@[simp] theorem q_0_4 : (Str.ofString "known" = Str.ofString "root") = False := eq_false (by decide)
@[simp] theorem q_1_2 : (Str.ofString "knots" = Str.ofString "head") = False := eq_false (by decide)
@[simp] theorem q_1_3 : (Str.ofString "knots" = Str.ofString "begun") = False := eq_false (by decide)
@[simp] theorem q_1_4 : (Str.ofString "knots" = Str.ofString "root") = False := eq_false (by decide)
@[simp] theorem q_2_3 : (Str.ofString "head" = Str.ofString "begun") = False := eq_false (by decide)
@[simp] theorem q_2_4 : (Str.ofString "head" = Str.ofString "root") = False := eq_false (by decide)
@[simp] theorem q_3_4 : (Str.ofString "begun" = Str.ofString "root") = False := eq_false (by decide)
theorem init_sp {t : Str} {nms A : List Str} {rs : List Row} (U : Rul nms A t rs) {F : List Str} (hF : Srt (Fru rs) F) (hF6 : F.length ≤ 6) {p : Addr} {h0 h : Mh} {Q : Kd} (hp : h p = some (.ins "Climb" [])) (np : h0 p = none) (sub : Kpa h0 h)
    (q : ∀ dk rk h', CO (goodL F rs) h0 h' p dk rk [] c0 0 → Q .non h') : sp_Climb___init__ [.ref p, rulesD t rs] h Q := by
  refine ⟨rfl, ?_⟩
  refine seq_step ?_
  simp [-gSeq, -List.lookup_eq_none_iff, hp, and_assoc, -wDc]
  refine good_rows_sp U hF hF6 fun h1 k1 => ?_
  have hp1 := k1 _ _ hp
  refine ⟨_, rfl, known_go (F := F) (goodL F rs) [] (fun x hx => Nat.lt_of_lt_of_le (goodL_ix hx).2 U.l) (fun x hx => by cases hx) (fun x _ y hy => by cases hy) (goodL_pw F rs) (by have := goodL_len F rs; have := U.l; simp only [List.length_nil]; omega) fun dk hdk => ?_⟩
  have npd := ne_new hp1 hdk
  rw [List.nil_append]
  refine ⟨_, _, (mput_ne npd).trans hp1, by decide +kernel, by decide, ?_⟩
  have kd1 : (mput h1 dk (.dK ((goodL F rs).map fun x => (.inr (numS x.2), goodD x)))) dk = some (.dK ((goodL F rs).map fun x => (.inr (numS x.2), goodD x))) := mput_same
  have s1 : Kpa h0 (mput h1 dk (.dK ((goodL F rs).map fun x => (.inr (numS x.2), goodD x)))) := (sub.trans k1).new ((sub.trans k1).none hdk) _
  generalize mput h1 dk (.dK ((goodL F rs).map fun x => (.inr (numS x.2), goodD x))) = h2 at kd1 s1 ⊢
  have step : ∀ (fs : List (Str × Dv)) (h : Mh) (N : Mh → Prop), Kpa h0 h → (∀ h', h' p = some (.ins "Climb" fs) → Kpa h0 h' → (∀ x m, x ≠ p → h x = some m → h' x = some m) → N h') → N (mput h p (.ins "Climb" fs)) := fun fs h N s k => k _ mput_same (s.new np _) fun x m n e => by rw [mput_ne n]; exact e
  refine step [("known", .ref dk)] h2 _ s1 fun h3 hp3 s3 o3 => ?_
  have kd3 := o3 _ _ (Ne.symm npd) kd1
  refine seq_step ?_
  simp [-gSeq, -List.lookup_eq_none_iff, and_assoc, putFd]
  intro rk hrk
  have npr := ne_new hp3 hrk
  have ndr := ne_new kd3 hrk
  refine ⟨_, _, (mput_ne npr).trans hp3, by decide +kernel, by simp, ?_⟩
  have kr4 : (mput h3 rk (.lst [])) rk = some (.lst []) := mput_same
  have kd4 : (mput h3 rk (.lst [])) dk = _ := (mput_ne ndr).trans kd3
  have s4 : Kpa h0 (mput h3 rk (.lst [])) := s3.new (s3.none hrk) _
  have nrk : h0 rk = none := s3.none hrk
  generalize mput h3 rk (.lst []) = h4 at kr4 kd4 s4 ⊢
  refine step [("known", .ref dk), ("knots", .ref rk)] h4 _ s4 fun h5 hp5 s5 o5 => ?_
  refine seq_step ?_
  simp [-gSeq, -List.lookup_eq_none_iff, hp5, and_assoc, putFd]
  refine step [("known", .ref dk), ("knots", .ref rk), ("head", .non)] h5 _ s5 fun h6 hp6 s6 o6 => ?_
  refine seq_step ?_
  simp [-gSeq, -List.lookup_eq_none_iff, hp6, and_assoc, putFd]
  refine step (cF dk rk .non false .non) h6 (Q .non) s6 fun h8 hp8 s8 o8 => ?_
  have up : ∀ x m, x ≠ p → h4 x = some m → h8 x = some m := fun x m n e => o8 x m n (o6 x m n (o5 x m n e))
  exact q dk rk h8 { hp := hp8, hdk := up _ _ (Ne.symm npd) kd4, hrk := up _ _ (Ne.symm npr) kr4, eks := rfl, kid := fun x hx => (by cases hx), nd := List.nodup_nil, wb := fun x hx => (by cases hx), jl := Nat.le_refl _, np := np, nrk := nrk, sub := s8, rtd := fun d e => (by cases e) }
end L73

namespace L73
open PySem L2 G3
set_option exponentiation.threshold 4000
/-- what a line may be: its words -/
structure Line (z first : Str) (others : List Str) : Prop where
  sz : z.length + 2 ≤ sizeLine
  sp : Txt.split z " " = first :: others
  len : (first :: others).length ≤ 5000000
  wd : ∀ w ∈ first :: others, w.length ≤ 5000000
/-! ### a line's words -/
theorem spl_facts (S : List Nat) : ∀ (l : List Nat) (k : Nat) (acc : List Nat), TL.spl S k acc l ≠ [] ∧ (TL.spl S k acc l).length ≤ l.length + 1 ∧ ∀ p ∈ TL.spl S k acc l, p.length ≤ acc.length + l.length
  | [], k, acc => by
    rw [TL.spl_nil]
    refine ⟨by simp, by simp, fun p hp => ?_⟩
    rw [List.mem_singleton.mp hp]
    simp
  | c :: r, 0, acc => by
    by_cases h : TL.pre S (c :: r) = true
    · rw [TL.spl_hit h]
      obtain ⟨a1, a2, a3⟩ := spl_facts S r (S.length - 1) []
      refine ⟨by simp, by simp only [List.length_cons]; omega, fun p hp => ?_⟩
      rcases List.mem_cons.mp hp with rfl | hp
      · simp
      · have := a3 p hp
        simp only [List.length_cons, List.length_nil] at this ⊢
        omega
    · rw [TL.spl_miss (Bool.eq_false_iff.mpr h)]
      obtain ⟨a1, a2, a3⟩ := spl_facts S r 0 (acc ++ [c])
      refine ⟨a1, by simp only [List.length_cons]; omega, fun p hp => ?_⟩
      have := a3 p hp
      simp only [List.length_cons, List.length_append, List.length_nil] at this ⊢
      omega
  | c :: r, k + 1, acc => by
    obtain ⟨a1, a2, a3⟩ := spl_facts S r k acc
    refine ⟨a1, Nat.le_trans a2 (by simp), fun p hp => ?_⟩
    have := a3 p hp
    simp only [List.length_cons]
    omega
theorem line_of {z : Str} (hz : z.length ≤ 4999990) : ∃ first others, Line z first others := by
  have key := TL.split_spl z " " (by decide +kernel) (TL.kind_ok (by decide +kernel))
  obtain ⟨a1, a2, a3⟩ := spl_facts (TL.tl " ") (TL.tl z) 0 []
  rw [← key] at a1 a2 a3
  have lz : (TL.tl z).length = z.length := (TL.len_tl z).symm
  cases hs : Txt.split z " " with
  | nil => rw [hs] at a1; exact absurd rfl a1
  | cons first others =>
    rw [hs, List.length_map] at a2
    rw [hs] at a3
    refine ⟨first, others, by rw [sizeLine_val]; omega, hs, by omega, fun w hw => ?_⟩
    have := a3 _ (List.mem_map_of_mem hw)
    rw [← TL.len_tl] at this
    simp only [List.length_nil] at this
    omega
theorem wFor_one {gg : GG} {b : GS} {d : Dv} (ds : List Dv) {E : En} {ρ : Sl} {h : Mh} (q : gg d ρ h fun ρ1 h1 => b { E with nx := wFor gg b ds E, ct := wFor gg b ds E, bk := E.nx } ρ1 h1) : wFor gg b (d :: ds) E ρ h := q
def run (G : List (Row × Nat)) : Cst → Nat → List Str → Except Nat Cst
  | s, _, [] => .ok s
  | s, i, w :: ws => match step G s w with
    | none => .error i
    | some t => run G t (i + 1) ws
/-- what a line's words come to: the number of a refusal, or a tree -/
def told (G : List (Row × Nat)) (ws : List Str) : Nat ⊕ Dv := match run G c0 0 ws with
  | .error k => .inl k
  | .ok s => match s.rt with
    | none => .inl ws.length
    | some d => .inr d
section
variable {G : List (Row × Nat)}
theorem tree_loop {R z : Dv} {all : List Dv} {p dk rk : Addr} {h0 : Mh} {En : En} (hb : ∀ x ∈ G, x.1.2.length ≤ 4) (hg : ∀ x ∈ G, ∀ u ∈ x.1.2, u.length ≤ sizeLine) : ∀ (ws : List Str) (i : Nat) (s : Cst) (kas : List (Knt × Addr)) (h1 : Mh) (e4 e5 : Option Dv), CO G h0 h1 p dk rk kas s i → CWf s → i + ws.length < sizeLine → (∀ w ∈ ws, w.length ≤ sizeLine) → (∀ t h2 kas' j a b, run G s i ws = .ok t → CO G h0 h2 p dk rk kas' t j → En.nx [some R, some z, some (.lst all), some (.ref p), a, b] h2) → (∀ k h2, run G s i ws = .error k → Kpa h0 h2 → En.xc "NoText" [("at", .int k)] h2) →
    wFor (ggTup 2 (ggCons (ggName 4) (ggCons (ggName 5) ggNil))) (gIfS (gNotT (gTest (gMeth "Climb" "takes" sp_Climb_takes (gVar 3) (gCons (gVar 5) gNil)))) (gRaiseF "NoText" "at" (gVar 4)) gNext) (numd i (ws.map Dv.str)) En [some R, some z, some (.lst all), some (.ref p), e4, e5] h1
  | [], i, s, kas, h1, e4, e5, C, _, _, _, q, _ => by
    simp [numd]
    exact q s h1 kas _ _ _ rfl C
  | w :: ws, i, s, kas, h1, e4, e5, C, W, hi, hw, q, qx => by
    have ih := fun t kas' h2 a b => tree_loop (R := R) (z := z) (all := all) (p := p) (dk := dk) (rk := rk) (h0 := h0) (En := En) hb hg ws (i + 1) t kas' h2 a b
    rw [List.length_cons] at hi
    rw [List.map_cons]
    refine wFor_one (numd (i + 1) (ws.map Dv.str)) ?_
    generalize hR : wFor _ _ (numd (i + 1) (ws.map Dv.str)) En = K
    have hp := C.hp
    simp [-List.lookup_eq_none_iff, ggCons, hp, and_assoc]
    refine takes_sp C (hw w List.mem_cons_self) (by omega) hb W (fun e h' k => .inl ⟨rfl, qx i h' (by simp only [run, e]) k⟩) (fun t h2 kas' e C' => .inr ⟨rfl, ?_⟩)
    rw [← hR]
    exact ih t kas' h2 _ _ C' (step_wf W hg e) (by omega) (fun x hx => hw x (List.mem_cons_of_mem _ hx)) (fun t' h3 k3 j a b e2 => q t' h3 k3 j a b (by simp only [run, e]; exact e2)) (fun k h3 e2 => qx k h3 (by simp only [run, e]; exact e2))
end
theorem read_sp {t : Str} {nms A : List Str} {rs : List Row} (U : Rul nms A t rs) {F : List Str} (hF : Srt (Fru rs) F) (hF6 : F.length ≤ 6) {z first : Str} {others : List Str} {h : Mh} {Q : Kd} {Ex : Kx} (L : Line z first others) (q : ∀ d h', Kpa h h' → told (goodL F rs) (first :: others) = .inr d → Q d h') (qx : ∀ k h', Kpa h h' → told (goodL F rs) (first :: others) = .inl k → Ex "NoText" [("at", .int k)] h') : sp_read_tree [rulesD t rs, .str z] h Q Ex := by
  refine ⟨rfl, ?_⟩
  have hsz := L.sz
  have hlen := L.len
  rw [sizeLine_val] at hsz
  refine seq_step ?_
  simp [-gSeq, L.sp]
  refine ⟨by decide, by omega, ?_⟩
  refine seq_step ?_
  simp [-gSeq]
  intro p hp
  have gm : ∀ x ∈ goodL F rs, x.1 ∈ rs := fun x hx => List.mem_of_getElem? (goodL_ix hx).1
  refine init_sp U hF hF6 (h0 := h) mput_same hp (Kpa.new hp _ (Kpa.refl h)) fun dk rk h1 C0 => ⟨rfl, ?_⟩
  refine seq_step ?_
  simp [-gSeq, -wFor]
  refine tree_loop (fun x hx => U.R.bd _ (gm x hx)) (fun x hx u hu => (U.W.bd _ (gm x hx) u hu).sz) (first :: others) 0 c0 [] h1 none none C0 ⟨fun x hx => (by cases hx), fun _ x hx => (by cases hx), fun x hx => (by cases hx)⟩ (by rw [sizeLine_val]; omega) (fun w hw => by have := L.wd w hw; rw [sizeLine_val]; omega) (fun t h2 kas' j a b e C2 => ?_) (fun k h2 e k2 => ?_)
  · dsimp only
    refine seq_step ?_
    have hp2 := C2.hp
    simp [-gSeq, -List.lookup_eq_none_iff, hp2, and_assoc]
    cases hrt : t.rt with
    | none =>
      have := qx _ h2 C2.sub (by unfold told; rw [e]; simp only [hrt]; rfl)
      rw [if_pos (show G3.isNon (optD none) = true from rfl)]
      simpa using this
    | some d =>
      obtain ⟨ks, rfl⟩ := C2.rtd d hrt
      rw [if_neg (by simp [optD, G3.isNon])]
      exact q _ h2 C2.sub (by unfold told; rw [e]; simp only [hrt]; rfl)
  · dsimp only
    exact qx k h2 k2 (by unfold told; rw [e])
end L73

namespace L73
open PySem L2 G3
set_option exponentiation.threshold 4000
theorem same_int {n : Nat} {k : Int} {h : Mh} {Q : Kd} (q : Q (.bl true) h) : sp_l_asame (n + 1) [.int k, .int k] h Q := by
  refine ⟨rfl, ?_⟩
  simp [W_l_asame]
  exact q
theorem sm_fig : (k_SMALL ++ k_FIGURES : Str) = "abcdefghijklmnopqrstuvwxyz0123456789" := by decide +kernel
theorem filt_nil2 {S z : Str} : ((z.cps.toList.map fun c => Dv.str { cps := #[c] }).filterMap fun d => if inStr S d = true then none else some d).length = 0 ↔ allIn S z = true := by
  unfold allIn
  generalize z.cps.toList = cs
  rw [List.all_eq_true, List.length_eq_zero_iff, List.filterMap_eq_nil_iff]
  constructor
  · intro h d hd
    have := h d hd
    by_cases e : inStr S d = true
    · exact e
    · simp [e] at this
  · intro h d hd
    simp [h d hd]
theorem ais_any_name_sp {z : Str} {h : Mh} {Q : Kd} (hz : z.length ≤ sizeLine) (q : Q (.bl (isName (.str z))) h) : sp_l_ais_any_name [.str z] h Q := by
  refine ⟨rfl, ?_⟩
  refine seq_step ?_
  simp [-gSeq, -wLc]
  have hc : (cutS z (some 1) none).length ≤ sizeLine := Nat.le_trans (cutS_len _ _ _) hz
  refine ⟨by simpa using hz, ?_⟩
  by_cases h0 : z.length = 0
  · exact .inl ⟨h0, by simpa [isName, h0] using q⟩
  refine .inr ⟨by omega, ?_⟩
  by_cases h6 : z.length ≤ 6
  · refine .inr ⟨by omega, by omega, ?_⟩
    have h00 : 0 < z.length := by omega
    refine ⟨_, by simpa using head_at h00, ?_⟩
    have e : isName (.str z) = (strIn (head z) k_GREAT && allIn (k_SMALL ++ k_FIGURES) (cutS z (some 1) none)) := by simp [isName, h00, h6]
    rw [e] at q
    cases hg : strIn (head z) k_GREAT
    · exact .inr ⟨by simpa [head] using hg, by simpa [hg] using q⟩
    · refine .inl ⟨by simpa [head] using hg, by omega, ?_⟩
      rw [hg, Bool.true_and, sm_fig] at q
      refine wLc_some (fun d => if inStr "abcdefghijklmnopqrstuvwxyz0123456789" d = true then none else some d) _ _ (fun d hd Q' R k => ?_) (by rw [List.length_map, ← str_len]; simpa using hc) ?_
      · obtain ⟨c, hc, rfl⟩ := List.mem_map.1 hd
        have k' : if strIn { cps := #[c] } (Str.ofString "abcdefghijklmnopqrstuvwxyz0123456789") = true then R h else Q' (Dv.str { cps := #[c] }) h := by
          by_cases e : strIn { cps := #[c] } (Str.ofString "abcdefghijklmnopqrstuvwxyz0123456789") = true
          · have e2 : inStr "abcdefghijklmnopqrstuvwxyz0123456789" (Dv.str { cps := #[c] }) = true := e
            rw [if_pos e]
            rw [if_pos e2] at k
            exact k
          · have e2 : ¬ inStr "abcdefghijklmnopqrstuvwxyz0123456789" (Dv.str { cps := #[c] }) = true := e
            rw [if_neg e]
            rw [if_neg e2] at k
            exact k
        simp
        by_cases e : strIn { cps := #[c] } (Str.ofString "abcdefghijklmnopqrstuvwxyz0123456789") = true
        · rw [if_pos e] at k'
          simp [e, k']
        · rw [if_neg e] at k'
          simp [e, k']
      · rw [List.nil_append]
        have e : (((((cutS z (some 1) none).cps.toList.map fun c => Dv.str { cps := #[c] }).filterMap fun d => if inStr "abcdefghijklmnopqrstuvwxyz0123456789" d = true then none else some d).length : Int) == 0) = allIn "abcdefghijklmnopqrstuvwxyz0123456789" (cutS z (some 1) none) := by
          rw [Bool.eq_iff_iff]
          rw [← filt_nil2]
          simp only [beq_iff_eq]
          omega
        rw [e]
        exact q
  · exact .inl ⟨by omega, by simpa [isName, h6] using q⟩
def isx (n m : Str) : Option Bool := (tbl.lookup n).bind fun row => row.lookup m

theorem isi_of {p : Addr} {n m : Str} {fs : List (Str × Dv)} {b : Bool} {h : Mh} {Q : Kd} (e : h p = some (.exc n fs)) (t : isx n m = some b) (q : Q (.bl b) h) : cIsiE tbl [.ref p, .obj m] h Q := by
  unfold isx at t
  cases hr : tbl.lookup n with
  | none => rw [hr] at t; cases t
  | some row =>
    rw [hr] at t
    exact .inr ⟨p, n, fs, row, .obj m, b, rfl, e, hr, .inl ⟨m, rfl, t⟩, q⟩
theorem isi_ve {p : Addr} {n : Str} {fs : List (Str × Dv)} {h : Mh} {Q : Kd} (e : h p = some (.exc n fs)) (t : (tbl.lookup n).isSome = true) (q : Q (.bl true) h) : cIsiE tbl [.ref p, .ty "ValueError"] h Q := by
  obtain ⟨row, hr⟩ := Option.isSome_iff_exists.mp t
  exact .inr ⟨p, n, fs, row, _, true, rfl, e, hr, .inr ⟨rfl, rfl⟩, q⟩

theorem x_NoPiece : isx "NoText" "NoPiece" = some false := by decide +kernel
theorem x_Endless : isx "NoText" "Endless" = some false := by decide +kernel
theorem x_NoStretch : isx "NoText" "NoStretch" = some false := by decide +kernel
theorem x_NoPlace : isx "NoText" "NoPlace" = some false := by decide +kernel
theorem x_NoCut : isx "NoText" "NoCut" = some false := by decide +kernel
theorem x_NoSign : isx "NoText" "NoSign" = some false := by decide +kernel
theorem x_TooLong : isx "NoText" "TooLong" = some false := by decide +kernel
theorem x_NoBatch : isx "NoText" "NoBatch" = some false := by decide +kernel
theorem x_NoBack : isx "NoText" "NoBack" = some false := by decide +kernel
theorem x_NoForbid : isx "NoText" "NoForbid" = some false := by decide +kernel
theorem x_NoMark : isx "NoText" "NoMark" = some false := by decide +kernel
theorem x_NoRow : isx "NoText" "NoRow" = some false := by decide +kernel
theorem x_NoText : isx "NoText" "NoText" = some true := by decide +kernel
theorem akind_sp {p : Addr} {fs : List (Str × Dv)} {h : Mh} {Q : Kd} (e : h p = some (.exc "NoText" fs)) (q : Q (.str "text") h) : sp_l_akind [.ref p] h Q := by
  refine ⟨rfl, ?_⟩

  refine seq_step ?_
  simp [-gSeq]
  refine isi_of e x_NoPiece (isi_of e x_Endless ?_)
  try simp [-gSeq]
  refine seq_step ?_
  simp [-gSeq]
  refine isi_of e x_NoStretch (isi_of e x_NoPlace ?_)
  refine seq_step ?_
  simp [-gSeq]
  refine isi_of e x_NoCut (isi_of e x_NoSign ?_)
  refine seq_step ?_
  simp [-gSeq]
  refine isi_of e x_TooLong (isi_of e x_NoBatch ?_)
  refine seq_step ?_
  simp [-gSeq]
  refine isi_of e x_NoBack (isi_of e x_NoForbid (isi_of e x_NoMark ?_))
  refine seq_step ?_
  simp [-gSeq]
  refine isi_of e x_NoRow (isi_of e x_NoText ?_)
  refine seq_step ?_
  simp [-gSeq]
  refine ⟨[false, false, false, false, false, false, false, false, false, false, false, false, true], true, rfl, rfl, ?_⟩
  simp [-gSeq]
  refine isi_ve e (by decide +kernel) ?_
  simp [-gSeq]
  refine seq_step ?_
  simp [-gSeq]
  refine ⟨[false, false, false, false, false, false, false, false, false, false, false, false, true], true, 12, rfl, rfl, rfl, by decide, ?_⟩
  refine rIx_lst.mpr ⟨.str "text", rfl, q⟩

def numD : Nat ⊕ Dv → Dv
  | .inl k => .tup [.str "no", .int k]
  | .inr d => .tup [.str "told", d]
theorem anum_sp {t : Str} {nms A : List Str} {rs : List Row} (U : Rul nms A t rs) {F : List Str} (hF : Srt (Fru rs) F) (hF6 : F.length ≤ 6) {z first : Str} {others : List Str} {h : Mh} {Q : Kd} (L : Line z first others) (q : ∀ h', Kpa h h' → Q (numD (told (goodL F rs) (first :: others))) h') : sp_l_anumbered [.obj "read_tree", .tup [rulesD t rs, .str z]] h Q := by
  refine ⟨rfl, ?_⟩
  refine seq_step ?_
  simp [-gSeq]
  refine seq_step ?_
  simp [-gSeq]
  refine seq_step ?_
  simp [-gSeq]
  refine ⟨sp_read_tree, rfl, read_sp U hF hF6 L (fun d h1 s1 e => ?_) (fun k h1 s1 e => ?_)⟩
  · refine seq_step ?_
    simp [-gSeq]
    have := q h1 s1
    rw [e] at this
    exact this
  · refine ⟨by decide +kernel, fun a ha => ?_⟩
    refine seq_step ?_
    simp [-gSeq]
    refine seq_step ?_
    simp [-gSeq]
    refine akind_sp mput_same ?_
    simp [-gSeq]
    have := q (mput h1 a (.exc "NoText" [("at", .int k)])) (s1.new (s1.none ha) _)
    rw [e] at this
    have ht : ∃ r, (("NoText" : Str), r) ∈ tbl := by
      have : (tbl.lookup ("NoText" : Str)).isSome = true := by decide +kernel
      obtain ⟨r, hr⟩ := Option.isSome_iff_exists.mp this
      exact ⟨r, mem_lookup hr⟩
    exact ⟨_, _, ⟨rfl, rfl⟩, ht, _, rfl, this⟩
end L73

namespace L73
open PySem L2 G3
set_option exponentiation.threshold 4000
/-! ### the law's stack -/
inductive Du where
  | knot (h : Option Str)
  | rule (h : Option Str)
  | wd (e : Bool) (w : Str)
def good (G : List (Row × Nat)) (h : Option Str) : List (Row × Nat) := G.filter fun x => decide (h = none ∨ h = some x.1.1)
def item (w : Str) : Du := if isName (.str w) = true then .knot (some w) else .wd false w
def dstep (G : List (Row × Nat)) : List Du → Str → Option (List Du)
  | [], _ => none
  | .knot h :: D, w => if w = "[" ∧ good G h ≠ [] then some (.rule h :: D) else none
  | .rule h :: D, w => match findG (good G h) w with
    | none => none
    | some x => some (x.1.2.map item ++ .wd true "]" :: D)
  | .wd _ u :: D, w => if w = u then some D else none
def drun (G : List (Row × Nat)) : List Du → Nat → List Str → Except Nat (List Du)
  | D, _, [] => .ok D
  | D, i, w :: ws => match dstep G D w with
    | none => .error i
    | some D' => drun G D' (i + 1) ws
def tailD : List Knt → List Du
  | [] => []
  | k :: t => (k.b.drop (k.ks.length + 1)).map item ++ .wd true "]" :: tailD t
def stk (s : Cst) : List Du := match s.rt with
  | some _ => []
  | none => match s.bg with
    | true => .rule s.hd :: tailD s.ks
    | false => match s.ks with
      | [] => [.knot none]
      | k :: t => (k.b.drop k.ks.length).map item ++ .wd true "]" :: tailD t
structure GOk (G : List (Row × Nat)) : Prop where
  nm : ∀ x ∈ G, ∀ u ∈ x.1.2, isName (.str u) = true → ∃ y ∈ G, y.1.1 = u
  lt : ∀ x ∈ G, x.2 < 16
  pw : G.Pairwise fun x y => x.2 ≠ y.2
structure Ss (G : List (Row × Nat)) (s : Cst) : Prop where
  b : ∀ k ∈ s.ks, ∃ x ∈ G, k.b = x.1.2
  rt : s.rt ≠ none → s.ks = []
theorem findG_good {G : List (Row × Nat)} (g : GOk G) (h : Option Str) (w : Str) : findG (good G h) w = (findG G w).bind fun x => if h = none ∨ h = some x.1.1 then some x else none := by
  cases e : findG G w with
  | none =>
    have : ∀ x ∈ G, ¬ decide (numS x.2 = w) = true := List.find?_eq_none.mp e
    exact List.find?_eq_none.mpr fun x hx => this x (List.mem_filter.mp hx).1
  | some x =>
    have hx := List.mem_of_find?_eq_some e
    have hw : numS x.2 = w := by simpa using List.find?_some e
    show _ = (if h = none ∨ h = some x.1.1 then some x else none)
    have one : ∀ y ∈ G, numS y.2 = w → y = x := fun y hy e2 => by
      have e3 := numS_inj y.2 (g.lt y hy) x.2 (g.lt x hx) (e2.trans hw.symm)
      refine Classical.byContradiction fun ne => ?_
      have : ∀ {L : List (Row × Nat)}, (L.Pairwise fun x y => x.2 ≠ y.2) → x ∈ L → y ∈ L → False := by
        intro L
        induction L with
        | nil => intro _ a _; cases a
        | cons z L ih =>
          intro p a b
          obtain ⟨p1, p2⟩ := List.pairwise_cons.mp p
          rcases List.mem_cons.mp a with rfl | a2
          · rcases List.mem_cons.mp b with rfl | b2
            · exact ne rfl
            · exact p1 y b2 e3.symm
          · rcases List.mem_cons.mp b with rfl | b2
            · exact p1 x a2 e3
            · exact ih p2 a2 b2
      exact this g.pw hx hy
    by_cases c : h = none ∨ h = some x.1.1
    · rw [if_pos c]
      have hm : x ∈ good G h := List.mem_filter.mpr ⟨hx, decide_eq_true c⟩
      cases f : findG (good G h) w with
      | none => exact absurd (decide_eq_true hw) (List.find?_eq_none.mp f x hm)
      | some y =>
        have hy := List.mem_of_find?_eq_some f
        rw [one y (List.mem_filter.mp hy).1 (by simpa using List.find?_some f)]
    · rw [if_neg c]
      refine List.find?_eq_none.mpr fun y hy z => ?_
      have := one y (List.mem_filter.mp hy).1 (by simpa using z)
      rw [this] at hy
      exact c (of_decide_eq_true (List.mem_filter.mp hy).2)
theorem good_none (G : List (Row × Nat)) : good G none = G := List.filter_eq_self.mpr fun x _ => by simp
theorem good_some {G : List (Row × Nat)} (g : GOk G) {x : Row × Nat} (hx : x ∈ G) {u : Str} (hu : u ∈ x.1.2) (hn : isName (.str u) = true) : good G (some u) ≠ [] := by
  obtain ⟨y, hy, e⟩ := g.nm x hx u hu hn
  refine List.ne_nil_of_mem (a := y) (List.mem_filter.mpr ⟨hy, ?_⟩)
  simp [e]
theorem step_sim {G : List (Row × Nat)} (g : GOk G) {s : Cst} (S : Ss G s) (w : Str) : (step G s w).map stk = dstep G (stk s) w ∧ ∀ t, step G s w = some t → Ss G t := by
  obtain ⟨ks, hd, bg, rt⟩ := s
  obtain ⟨Sb, Sr⟩ := S
  simp only at Sb Sr
  cases rt with
  | some d => exact ⟨rfl, fun t e => by cases e⟩
  | none =>
    cases bg with
    | true =>
      have e := findG_good g hd w
      simp only [step, stk, dstep]
      rw [e]
      cases hf : findG G w with
      | none => exact ⟨rfl, fun t e => by cases e⟩
      | some x =>
        by_cases c : hd = none ∨ hd = some x.1.1
        · simp only [Option.bind_some, if_pos c]
          refine ⟨rfl, fun t e => ?_⟩
          cases e
          refine ⟨fun k hk => ?_, fun z => absurd rfl z⟩
          rcases List.mem_cons.mp hk with rfl | hk
          · exact ⟨x, List.mem_of_find?_eq_some hf, rfl⟩
          · exact Sb k hk
        · simp only [Option.bind_some, if_neg c]
          exact ⟨rfl, fun t e => by cases e⟩
    | false =>
      cases ks with
      | nil =>
        simp only [step, stk, dstep, begs, good_none]
        by_cases c : w = "[" ∧ G ≠ []
        · rw [if_pos c, if_pos c]
          refine ⟨rfl, fun t e => ?_⟩
          cases e
          exact ⟨fun k hk => (by cases hk), fun z => absurd rfl z⟩
        · rw [if_neg c, if_neg c]
          exact ⟨rfl, fun t e => by cases e⟩
      | cons k ks =>
        simp only [step, stk]
        cases hu : k.b[k.ks.length]? with
        | none =>
          have hl : k.b.length ≤ k.ks.length := List.getElem?_eq_none_iff.mp hu
          rw [List.drop_eq_nil_of_le hl]
          simp only [List.map_nil, List.nil_append, dstep]
          by_cases c : w = "]"
          · rw [if_pos c, if_pos c]
            cases ks with
            | nil => exact ⟨rfl, fun t e => by cases e; exact ⟨fun k hk => (by cases hk), fun _ => rfl⟩⟩
            | cons k2 ks =>
              refine ⟨?_, fun t e => ?_⟩
              · simp only [Option.map_some, popS, stk, tailD, List.length_append, List.length_singleton]
              · cases e
                refine ⟨fun k3 hk => ?_, fun z => absurd rfl z⟩
                rcases List.mem_cons.mp hk with rfl | hk
                · exact Sb k2 (List.mem_cons_of_mem _ List.mem_cons_self)
                · exact Sb k3 (List.mem_cons_of_mem _ (List.mem_cons_of_mem _ hk))
          · rw [if_neg c, if_neg c]
            exact ⟨rfl, fun t e => by cases e⟩
        | some u =>
          obtain ⟨hlt, hue⟩ := List.getElem?_eq_some_iff.mp hu
          have hum : u ∈ k.b := List.mem_of_getElem? hu
          rw [List.drop_eq_getElem_cons hlt, hue]
          simp only [List.map_cons, List.cons_append]
          obtain ⟨x, hx, ex⟩ := Sb k List.mem_cons_self
          by_cases hn : isName (.str u) = true
          · have gn := good_some g hx (ex ▸ hum) hn
            have gG : G ≠ [] := List.ne_nil_of_mem hx
            simp only [item, if_pos hn, dstep, begs]
            by_cases c : w = "["
            · rw [if_pos ⟨c, gG⟩, if_pos ⟨c, gn⟩]
              refine ⟨rfl, fun t e => ?_⟩
              cases e
              exact ⟨Sb, fun z => absurd rfl z⟩
            · rw [if_neg fun z => c z.1, if_neg fun z => c z.1]
              exact ⟨rfl, fun t e => by cases e⟩
          · simp only [if_neg hn]
            have ei : item u = .wd false u := by simp only [item, if_neg hn]
            rw [ei]
            simp only [dstep]
            by_cases c : w = u
            · rw [if_pos c, if_pos c]
              refine ⟨?_, fun t e => ?_⟩
              · simp only [Option.map_some, stk, List.length_append, List.length_singleton]
              · cases e
                refine ⟨fun k3 hk => ?_, fun z => absurd rfl z⟩
                rcases List.mem_cons.mp hk with rfl | hk
                · exact ⟨x, hx, ex⟩
                · exact Sb k3 (List.mem_cons_of_mem _ hk)
            · rw [if_neg c, if_neg c]
              exact ⟨rfl, fun t e => by cases e⟩
end L73

namespace L73
open PySem L2 G3
set_option exponentiation.threshold 4000
theorem stk_nil {G : List (Row × Nat)} {s : Cst} (S : Ss G s) : stk s = [] ↔ s.rt ≠ none := by
  obtain ⟨ks, hd, bg, rt⟩ := s
  cases rt with
  | some d => simp [stk]
  | none =>
    cases bg with
    | true => simp [stk]
    | false => cases ks <;> simp [stk]
theorem run_sim {G : List (Row × Nat)} (g : GOk G) : ∀ (ws : List Str) (i : Nat) (s : Cst), Ss G s → (∀ k, run G s i ws = .error k → drun G (stk s) i ws = .error k) ∧ ∀ t, run G s i ws = .ok t → Ss G t ∧ drun G (stk s) i ws = .ok (stk t)
  | [], i, s, S => ⟨fun k e => (by cases e), fun t e => (by cases e; exact ⟨S, rfl⟩)⟩
  | w :: ws, i, s, S => by
    obtain ⟨e1, e2⟩ := step_sim g S w
    cases es : step G s w with
    | none =>
      rw [es] at e1
      have e1 : dstep G (stk s) w = none := e1.symm
      simp only [run, drun, es, e1]
      exact ⟨fun k e => (by cases e; rfl), fun t e => (by cases e)⟩
    | some u =>
      rw [es] at e1
      have e1 : dstep G (stk s) w = some (stk u) := e1.symm
      simp only [run, drun, es, e1]
      exact run_sim g ws (i + 1) u (e2 u es)
def dueN (G : List (Row × Nat)) (ws : List Str) : Option Nat := match drun G [.knot none] 0 ws with
  | .error k => some k
  | .ok [] => none
  | .ok (_ :: _) => some ws.length
theorem told_due {G : List (Row × Nat)} (g : GOk G) (ws : List Str) : (∀ k, dueN G ws = some k → told G ws = .inl k) ∧ (dueN G ws = none → ∃ t d, run G c0 0 ws = .ok t ∧ t.rt = some d ∧ told G ws = .inr d) := by
  have S0 : Ss G c0 := ⟨fun k hk => (by cases hk), fun z => absurd rfl z⟩
  obtain ⟨r1, r2⟩ := run_sim g ws 0 c0 S0
  have e0 : stk c0 = [.knot none] := rfl
  rw [e0] at r1 r2
  cases e : run G c0 0 ws with
  | error k =>
    have d := r1 k e
    refine ⟨fun k' z => ?_, fun z => ?_⟩
    · unfold dueN at z; rw [d] at z; cases z
      unfold told; rw [e]
    · unfold dueN at z; rw [d] at z; cases z
  | ok t =>
    obtain ⟨St, d⟩ := r2 t e
    have sn := stk_nil St
    refine ⟨fun k' z => ?_, fun z => ?_⟩
    · unfold dueN at z; rw [d] at z
      cases ht : t.rt with
      | none =>
        cases hs : stk t with
        | nil => exact absurd ht (sn.mp hs)
        | cons a b =>
          rw [hs] at z; cases z
          unfold told; rw [e]; simp only [ht]
      | some d2 =>
        rw [sn.mpr (by rw [ht]; simp)] at z
        cases z
    · unfold dueN at z; rw [d] at z
      cases hs : stk t with
      | cons a b => rw [hs] at z; cases z
      | nil =>
        obtain ⟨d2, hd⟩ := Option.ne_none_iff_exists'.mp (sn.mp hs)
        exact ⟨t, d2, rfl, hd, by unfold told; rw [e]; simp only [hd]⟩
end L73

namespace L73
open PySem L2 G3
set_option exponentiation.threshold 4000
/-! ### the words of a tree -/
inductive TW : List Dv → List Str → Nat → Prop
  | nil (d : Nat) : TW [] [] d
  | sg (w : Str) {ks : List Dv} {ws : List Str} {d : Nat} (h : TW ks ws d) : TW (.str w :: ks) (w :: ws) d
  | nd (n : Nat) (hn : n < 16) {kk ks : List Dv} {w1 ws : List Str} {d : Nat} (h1 : TW kk w1 d) (h : TW ks ws (d + 1)) : TW (.tup [.int n, .tup kk] :: ks) (("[" : Str) :: numS n :: (w1 ++ ("]" : Str) :: ws)) (d + 1)
theorem TW.mono {ks : List Dv} {ws : List Str} {d : Nat} (h : TW ks ws d) : ∀ d', d ≤ d' → TW ks ws d' := by
  induction h with
  | nil d => exact fun d' _ => .nil d'
  | sg w _ ih => exact fun d' l => .sg w (ih d' l)
  | nd n hn _ _ ih1 ih2 =>
    intro d' l
    obtain ⟨e, rfl⟩ : ∃ e, d' = e + 1 := ⟨d' - 1, by omega⟩
    exact .nd n hn (ih1 e (by omega)) (ih2 (e + 1) l)
theorem TW.app {ks ks' : List Dv} {ws ws' : List Str} {d : Nat} (h : TW ks ws d) (h' : TW ks' ws' d) : TW (ks ++ ks') (ws ++ ws') d := by
  induction h with
  | nil d => exact h'
  | sg w _ ih => exact .sg w (ih h')
  | nd n hn a _ ih1 ih2 =>
    have := TW.nd n hn a (ih2 h')
    simpa using this
def KW : List Knt → List Str → Prop
  | [], ws => ws = []
  | k :: t, ws => ∃ a b d, KW t a ∧ TW k.ks b d ∧ k.n < 16 ∧ ws = a ++ ("[" : Str) :: numS k.n :: b
def SW (s : Cst) (ws : List Str) : Prop := match s.rt with
  | some x => ∃ d, TW [x] ws d
  | none => if s.bg = true then ∃ a, KW s.ks a ∧ ws = a ++ [("[" : Str)] else KW s.ks ws
theorem kid_tw {k : Knt} {b : List Str} {d : Nat} (hn : k.n < 16) (h : TW k.ks b d) : TW [kdone k] (("[" : Str) :: numS k.n :: (b ++ [("]" : Str)])) (d + 1) := .nd k.n hn h (.nil _)
theorem KW.grow {k : Knt} {t : List Knt} {ws : List Str} (h : KW (k :: t) ws) {x : Dv} {b : List Str} {d : Nat} (hx : TW [x] b d) : KW ({ k with ks := k.ks ++ [x] } :: t) (ws ++ b) := by
  obtain ⟨a, b1, d1, k1, t1, n1, rfl⟩ := h
  exact ⟨a, b1 ++ b, max d1 d, k1, (t1.mono _ (Nat.le_max_left _ _)).app (hx.mono _ (Nat.le_max_right _ _)), n1, by simp⟩
theorem step_words {G : List (Row × Nat)} (g : GOk G) {s t : Cst} {w : Str} {ws : List Str} (S : SW s ws) (e : step G s w = some t) : SW t (ws ++ [w]) := by
  obtain ⟨ks, hd, bg, rt⟩ := s
  cases rt with
  | some d => cases e
  | none =>
    cases bg with
    | true =>
      obtain ⟨a, ka, rfl⟩ : ∃ a, KW ks a ∧ ws = a ++ [("[" : Str)] := S
      simp only [step] at e
      cases hf : findG G w with
      | none => rw [hf] at e; cases e
      | some x =>
        rw [hf] at e
        simp only at e
        split at e
        · cases e
          have hx := List.mem_of_find?_eq_some hf
          have hw : numS x.2 = w := by simpa using List.find?_some hf
          show KW _ _
          exact ⟨a, [], 0, ka, .nil 0, g.lt x hx, by simp [hw]⟩
        · cases e
    | false =>
      have S : KW ks ws := S
      cases ks with
      | nil =>
        obtain ⟨rfl, rfl, _⟩ := begs_some (s := ⟨[], hd, false, none⟩) (hd := none) e
        exact ⟨ws, S, rfl⟩
      | cons k ks =>
        simp only [step] at e
        cases hu : k.b[k.ks.length]? with
        | none =>
          rw [hu] at e
          simp only at e
          split at e
          · rename_i hw
            cases e
            subst hw
            obtain ⟨a, b, d, ka, tb, kn, rfl⟩ := S
            have td := kid_tw kn tb
            cases ks with
            | nil =>
              have ka : a = [] := ka
              subst ka
              exact ⟨d + 1, by simpa using td⟩
            | cons k2 ks =>
              have := KW.grow ka td
              have e : (a ++ ("[" : Str) :: numS k.n :: b) ++ [("]" : Str)] = a ++ (("[" : Str) :: numS k.n :: (b ++ [("]" : Str)])) := by simp
              show KW _ ((a ++ ("[" : Str) :: numS k.n :: b) ++ [("]" : Str)])
              rw [e]
              exact this
          · cases e
        | some u =>
          rw [hu] at e
          simp only at e
          split at e
          · obtain ⟨rfl, rfl, _⟩ := begs_some e
            exact ⟨ws, S, rfl⟩
          · split at e
            · rename_i hw
              cases e
              exact KW.grow S (.sg w (.nil 0))
            · cases e
theorem run_words {G : List (Row × Nat)} (g : GOk G) : ∀ (ws : List Str) (i : Nat) (s t : Cst) (us : List Str), SW s us → run G s i ws = .ok t → SW t (us ++ ws)
  | [], i, s, t, us, S, e => by cases e; simpa using S
  | w :: ws, i, s, t, us, S, e => by
    cases es : step G s w with
    | none => simp only [run, es] at e; cases e
    | some u =>
      simp only [run, es] at e
      have := run_words g ws (i + 1) u t (us ++ [w]) (step_words g S es) e
      simpa using this
theorem told_words {G : List (Row × Nat)} (g : GOk G) {ws : List Str} (h : dueN G ws = none) : ∃ x d, told G ws = .inr x ∧ TW [x] ws d := by
  obtain ⟨t, x, e, hr, ht⟩ := (told_due g ws).2 h
  have := run_words g ws 0 c0 t [] rfl e
  unfold SW at this
  rw [hr] at this
  obtain ⟨d, td⟩ := this
  exact ⟨x, d, ht, by simpa using td⟩
end L73

namespace L73
open PySem L2 G3
set_option exponentiation.threshold 4000
theorem TW.split {x : Dv} {ks : List Dv} {ws : List Str} {d : Nat} (h : TW (x :: ks) ws d) : ∃ a b, TW [x] a d ∧ TW ks b d ∧ ws = a ++ b := by
  cases h with
  | sg w h => exact ⟨[w], _, .sg w (.nil _), h, rfl⟩
  | nd n hn h1 h => exact ⟨_, _, .nd n hn h1 (.nil _), h, by simp⟩
theorem words_loop {E : En} {x : Dv} {n d : Nat} {h : Mh} (hr : ∀ y a, TW [y] a d → a.length ≤ 1000000 → ∀ Q : Kd, Q (.lst (a.map Dv.str)) h → sp_l_atree_words n [y] h Q) : ∀ (ks : List Dv) (ws acc : List Str) (e2 : Option Dv), TW ks ws d → acc.length + ws.length ≤ 1000000 → (∀ e2, E.nx [some x, some (.lst ((acc ++ ws).map Dv.str)), e2] h) →
    wFor (ggName 2) (gSet 1 (gOp rAddD (gVar 1) (gFn (sp_l_atree_words n) (gCons (gVar 2) gNil)))) ks E [some x, some (.lst (acc.map Dv.str)), e2] h
  | [], ws, acc, e2, t, l, q => by
    cases t
    simpa using q e2
  | y :: ks, ws, acc, e2, t, l, q => by
    obtain ⟨a, b, ta, tb, rfl⟩ := t.split
    rw [List.length_append] at l
    refine wFor_one ks ?_
    generalize hR : wFor _ _ ks E = K
    simp
    refine hr y a ta (by omega) _ ?_
    simp
    refine ⟨by omega, ?_⟩
    rw [← hR]
    have := words_loop (E := E) hr ks b (acc ++ a) (some y) tb (by rw [List.length_append]; omega) (by rw [List.append_assoc]; exact q)
    simpa using this
theorem tree_words_sp {h : Mh} : ∀ (n d : Nat) (x : Dv) (ws : List Str), TW [x] ws d → d < n → ws.length ≤ 1000000 → ∀ Q : Kd, Q (.lst (ws.map Dv.str)) h → sp_l_atree_words n [x] h Q
  | 0, d, x, ws, t, l, _, Q, q => by omega
  | n + 1, d, x, ws, t, l, hl, Q, q => by
    refine ⟨rfl, ?_⟩
    cases t with
    | sg w t2 =>
      cases t2
      simp [W_l_atree_words]
      exact q
    | nd k hk t1 t2 =>
      cases t2
      refine seq_step ?_
      simp [-gSeq]
      refine seq_step ?_
      simp [-gSeq]
      rename_i kk w1 d2
      have l2 : k.log2 < 1920 := by
        by_cases z : k = 0
        · rw [z]; decide
        · exact (Nat.log2_lt z).mpr (Nat.lt_of_lt_of_le hk (Nat.le_trans (by decide : 16 ≤ 2 ^ 4) (Nat.pow_le_pow_right (by decide) (by decide))))
      refine ⟨l2, ?_⟩
      have hl : w1.length + 3 ≤ 1000000 := by simpa using hl
      refine seq_step ?_
      simp [-gSeq, -wFor]
      refine words_loop (x := .tup [.int k, .tup kk]) (n := n) (h := h) (fun y a ta la Q q => tree_words_sp n d2 y a ta (by omega) la Q q) kk w1 [("[" : Str), numS k] none t1 (by simp; omega) (fun e2 => ?_)
      dsimp only
      simp
      refine ⟨by omega, ?_⟩
      simpa using q
end L73

namespace L73
open PySem L2 G3
set_option exponentiation.threshold 4000
/-! ### the law's good rows -/
def Hts (h : Mh) (dh : Addr) (F : List Str) : Prop := ∃ kvs, h dh = some (.dK kvs) ∧ ∀ w, (valD kvs (.inr w)).isSome = decide (w ∈ F)
theorem Hts.kpa {h h' : Mh} {dh : Addr} {F : List Str} (H : Hts h dh F) (k : Kpa h h') : Hts h' dh F := let ⟨kvs, e, v⟩ := H; ⟨kvs, k _ _ e, v⟩
def goodN (G : List (Row × Nat)) (hd : Option Str) : List Dv := (good G hd).map fun x => .int x.2
theorem goodN_take {F : List Str} {rs : List Row} {i : Nat} {r : Row} (hd : Option Str) (e : rs[i]? = some r) : goodN (goodL F (rs.take (i + 1))) hd = goodN (goodL F (rs.take i)) hd ++ (if goodB F r = true ∧ (hd = none ∨ hd = some r.1) then [.int i] else []) := by
  unfold goodN good
  rw [goodL_take e, List.filter_append, List.map_append]
  congr 1
  by_cases a : goodB F r = true
  · rw [if_pos a]
    by_cases b : hd = none ∨ hd = some r.1
    · rw [if_pos ⟨a, b⟩, List.filter_cons_of_pos (p := fun x : Row × Nat => decide (hd = none ∨ hd = some x.1.1)) (decide_eq_true b)]
      rfl
    · rw [if_neg fun z => b z.2, List.filter_cons_of_neg (p := fun x : Row × Nat => decide (hd = none ∨ hd = some x.1.1)) (by simpa using b)]
      rfl
  · rw [if_neg a, if_neg fun z => a z.1]
    rfl
theorem iteT {c : Prop} {d : Decidable c} {a b : Prop} (h : c) (x : a) : @ite Prop c d a b := by rw [if_pos h]; exact x
theorem iteF {c : Prop} {d : Decidable c} {a b : Prop} (h : ¬ c) (x : b) : @ite Prop c d a b := by rw [if_neg h]; exact x
theorem names_eq (F b : List Str) : ((b.map Dv.str).filterMap fun d => if isName d = true ∧ ¬ strD d ∈ F then some d else none) = (b.filter fun w => isNm w && !decide (w ∈ F)).map Dv.str := by
  induction b with
  | nil => rfl
  | cons w b ih =>
    rw [List.map_cons, List.filterMap_cons, List.filter_cons, ih]
    by_cases c : isName (.str w) = true ∧ ¬ strD (.str w) ∈ F
    · have c2 : ¬ w ∈ F := c.2
      have e : (isNm w && !decide (w ∈ F)) = true := by simp [isNm, c.1, c2]
      rw [if_pos c, if_pos e]; rfl
    · have e : ¬ (isNm w && !decide (w ∈ F)) = true := by
        intro z
        rw [Bool.and_eq_true] at z
        have z2 : ¬ w ∈ F := by simpa using z.2
        exact c ⟨z.1, z2⟩
      rw [if_neg c, if_neg e]
theorem names_nil (F : List Str) (r : Row) : (r.2.filter fun w => isNm w && !decide (w ∈ F)) = [] ↔ goodB F r = true := by
  rw [List.filter_eq_nil_iff]
  unfold goodB
  rw [List.all_eq_true]
  refine ⟨fun h w hw => ?_, fun h w hw => ?_⟩
  · have := h w hw
    cases a : isNm w <;> simp_all
  · have := h w hw
    cases a : isNm w <;> simp_all
theorem agood_sp {t : Str} {nms A : List Str} {rs : List Row} (U : Rul nms A t rs) {F : List Str} {dh : Addr} (hd : Option Str) {h : Mh} {Q : Kd} (H : Hts h dh F) (q : ∀ h', Kpa h h' → Q (.lst (goodN (goodL F rs) hd)) h') : sp_l_agood [rulesD t rs, .ref dh, optS hd] h Q := by
  obtain ⟨R, W, hl, hn, ot⟩ := U
  obtain ⟨kvs, hk, hv⟩ := H
  refine ⟨rfl, ?_⟩
  refine seq_step ?_
  simp [-gSeq, -wFor, -wLc]
  intro p hp
  have np2 : dh ≠ p := fun z => by rw [← z, hk] at hp; cases hp
  refine seq_step ?_
  unfold rulesD
  simp [-gSeq, -wFor, -wLc]
  refine wFor_inv _ (fun i ρ' h' => ∃ (a4 a5 a6 a7 : Option Dv), ρ' = [some (.tup [.str t, .tup (rs.map rowD)]), some (.ref dh), some (optS hd), some (.ref p), a4, a5, a6, a7] ∧ h' = mput h p (.lst (goodN (goodL F (rs.take i)) hd))) _ _ (fun i d ρ' h' N hI hd2 hN => ?_) ⟨none, none, none, none, rfl, by simp [goodL, goodN, good]⟩ (fun ρ' h' hI => ?_)
  · obtain ⟨a4, a5, a6, a7, rfl, rfl⟩ := hI
    rw [numd_get, List.getElem?_map] at hd2
    obtain ⟨d2, hd3, rfl⟩ := Option.map_eq_some_iff.mp hd2
    obtain ⟨r, hr, rfl⟩ := Option.map_eq_some_iff.mp hd3
    have hm := List.mem_of_getElem? hr
    have b4 := R.bd r hm
    have gl := goodL_len F (rs.take i)
    have tl : (rs.take i).length ≤ rs.length := by rw [List.length_take]; omega
    simp [ggCons, rowD, -gSeq, -wFor, -wLc, -isIn]
    refine ⟨_, _, ⟨rfl, rfl⟩, _, _, rfl, rfl, ?_⟩
    refine seq_step ?_
    simp [-gSeq, -wFor, -wLc, -isIn]
    have e7 : mput h p (Mo.lst (goodN (goodL F (rs.take i)) hd)) dh = some (.dK kvs) := by rw [mput_ne np2]; exact hk
    have hdd : (dat (optS hd) = true ∧ dep (optS hd) ≤ 60) := by cases hd <;> exact ⟨rfl, Nat.zero_le _⟩
    have hin : isIn (optS hd) [Dv.non, Dv.str r.1] = decide (hd = none ∨ hd = some r.1) := by
      cases hd with
      | none => rfl
      | some v =>
        rw [Bool.eq_iff_iff]
        simp [isIn, optS]
        exact eq_comm
    refine wLc_some (fun d => if isName d = true ∧ ¬ strD d ∈ F then some d else none) _ _ (fun d hd4 Q' R' z => ?_) (by simp only [List.length_map, List.length_nil]; rw [sizeLine_val]; omega) ?_
    · obtain ⟨w, hw, rfl⟩ := List.mem_map.mp hd4
      have ow := W.bd r hm w hw
      have hg : DGetD (mput h p (Mo.lst (goodN (goodL F (rs.take i)) hd))) (.ref dh) (.str w) (valD kvs (.inr w)) := DGetD.k (k := .inr w) (.inl e7)
      simp [-gSeq, -wFor, -isIn]
      refine ais_name_sp ow.sz ?_
      rw [show aisN w = isName (.str w) from ow.nm]
      cases hn1 : isName (.str w)
      · refine .inl ⟨rfl, ?_⟩
        rw [if_neg (fun c => by rw [hn1] at c; cases c.1)] at z
        exact z
      · refine .inr ⟨rfl, _, hg, ?_⟩
        have hvw := hv w
        by_cases c : w ∈ F
        · rw [decide_eq_true c] at hvw
          obtain ⟨y, hy⟩ := Option.isSome_iff_exists.mp hvw
          rw [hy, if_neg (by simp)]
          rw [if_neg (fun d => d.2 c)] at z
          exact z
        · rw [decide_eq_false c] at hvw
          rw [if_pos (by simpa using hvw)]
          rw [if_pos ⟨hn1, c⟩] at z
          exact z
    · rw [List.nil_append, names_eq]
      have sd := strs_dat (r.2.filter fun w => isNm w && !decide (w ∈ F))
      refine ⟨⟨sd.1, by rw [sd.2]; omega⟩, ?_⟩
      have eT := goodN_take (F := F) hd hr
      have nn := names_nil F r
      cases hL : (r.2.filter fun w => isNm w && !decide (w ∈ F)) with
      | nil =>
        have gb := nn.mp hL
        rw [List.map_nil]
        refine iteT rfl ⟨hdd, ?_⟩
        rw [hin]
        by_cases c : hd = none ∨ hd = some r.1
        · rw [if_pos ⟨gb, c⟩] at eT
          refine .inr ⟨decide_eq_true c, ⟨_, mput_same⟩, _, mput_same, ?_, hN _ _ ⟨_, _, _, _, rfl, ?_⟩⟩
          · have := List.length_filter_le (fun x : Row × Nat => decide (hd = none ∨ hd = some x.1.1)) (goodL F (rs.take i))
            unfold goodN good
            rw [List.length_map]
            omega
          · rw [eT, mput_mput]
        · rw [if_neg fun z => c z.2, List.append_nil] at eT
          exact .inl ⟨decide_eq_false c, hN _ _ ⟨_, _, _, _, rfl, by rw [eT]⟩⟩
      | cons a b =>
        have gb : ¬ goodB F r = true := fun z => by rw [nn.mpr z] at hL; cases hL
        rw [if_neg fun z => gb z.1, List.append_nil] at eT
        refine iteF (by simp [deqs]) ?_
        exact hN _ _ ⟨_, _, _, _, rfl, by rw [eT]⟩
  · obtain ⟨a4, a5, a6, a7, rfl, rfl⟩ := hI
    have el : (numd 0 (rs.map rowD)).length = rs.length := by rw [numd_len, List.length_map]
    rw [el, List.take_length]
    dsimp only
    simp [-gSeq]
    refine q _ ?_
    intro b m e
    have n : b ≠ p := fun z => by rw [z, hp] at e; cases e
    rw [mdel_ne n, mput_ne n]
    exact e
end L73

namespace L73
open PySem L2 G3
set_option exponentiation.threshold 4000
theorem Kpa.del {p : Addr} {h h' : Mh} (e : h p = Option.none) (k : Kpa h h') : Kpa h (mdel h' p) := fun b m e2 => by
  by_cases z : b = p
  · rw [z, e] at e2; cases e2
  · rw [mdel_ne z]; exact k b m e2
theorem mdel_new {h : Mh} {p : Addr} {o : Mo} (e : h p = none) : mdel (mput h p o) p = h := by
  funext b
  by_cases z : b = p
  · rw [z, mdel_same, e]
  · rw [mdel_ne z, mput_ne z]
theorem Feed.kpa {h h' : Mh} {a : Addr} {n : Nat} (f : Feed h a n) (k : Kpa h h') : Feed h' a n := by
  obtain ⟨c, x, y, e, p⟩ := f
  exact ⟨c, x, y, k _ _ e, p⟩
/-! ### the law's heights -/
def kvH (f : List Str) (H : Str → Nat) : List (Key × Dv) := f.map fun n => (.inr n, .int (H n))
def updH (H : Str → Nat) (n : Str) (v : Nat) : Str → Nat := fun m => if m = n then v else H m
theorem val_H (H : Str → Nat) (n : Str) : ∀ f : List Str, valD (kvH f H) (.inr n) = if n ∈ f then some (.int (H n)) else none
  | [] => by simp [kvH, valD]
  | x :: f => by
    have ih := val_H H n f
    unfold valD kvH at ih ⊢
    rw [List.map_cons, List.find?_cons]
    by_cases e : x = n
    · subst e
      simp
    · have d : decide ((Sum.inr x : Key) = Sum.inr n) = false := by simpa using e
      rw [d]
      simp only
      rw [ih]
      have : n ∈ x :: f ↔ n ∈ f := by
        rw [List.mem_cons]
        exact ⟨fun z => z.resolve_left fun z2 => e z2.symm, .inr⟩
      by_cases m : n ∈ f
      · rw [if_pos m, if_pos (this.mpr m)]
      · rw [if_neg m, if_neg fun z => m (this.mp z)]
theorem put_H (H : Str → Nat) (n : Str) (v : Nat) (f : List Str) : putD (kvH f H) (.inr n) (.int v) = kvH (if n ∈ f then f else f ++ [n]) (updH H n v) := by
  have ha : ((kvH f H).any fun kv => decide (kv.1 = (Sum.inr n : Key))) = decide (n ∈ f) := by
    rw [Bool.eq_iff_iff, List.any_eq_true, decide_eq_true_eq]
    unfold kvH
    constructor
    · rintro ⟨kv, hk, e⟩
      obtain ⟨x, hx, rfl⟩ := List.mem_map.mp hk
      have : x = n := by simpa using e
      exact this ▸ hx
    · exact fun h => ⟨_, List.mem_map.mpr ⟨n, h, rfl⟩, by simp⟩
  unfold putD
  rw [ha]
  by_cases m : n ∈ f
  · rw [if_pos (decide_eq_true m), if_pos m]
    unfold kvH
    rw [List.map_map]
    refine List.map_congr_left fun x _ => ?_
    simp only [Function.comp]
    by_cases e : x = n
    · subst e
      simp [updH]
    · have : ¬ (Sum.inr x : Key) = Sum.inr n := by simpa using e
      rw [if_neg this]
      simp [updH, e]
  · rw [if_neg (by simpa using m), if_neg m]
    unfold kvH
    rw [List.map_append]
    congr 1
    · refine List.map_congr_left fun x hx => ?_
      have e : ¬ x = n := fun z => m (z ▸ hx)
      simp [updH, e]
    · simp [updH]
structure HI (rs : List Row) (nms f : List Str) (H : Str → Nat) : Prop where
  nd : f.Nodup
  sub : ∀ n ∈ f, n ∈ nms ∧ Fru rs n
  le : ∀ n ∈ f, 1 ≤ H n ∧ H n ≤ f.length
  wit : ∀ n ∈ f, ∃ r ∈ rs, r.1 = n ∧ ∀ w ∈ r.2, isNm w = true → w ∈ f ∧ H w + 1 ≤ H n
theorem HI.len {rs : List Row} {nms f : List Str} {H : Str → Nat} (I : HI rs nms f H) : f.length ≤ nms.length := nodup_le f nms I.nd fun n h => (I.sub n h).1
theorem HI.put {rs : List Row} {nms f : List Str} {H : Str → Nat} (I : HI rs nms f H) {r : Row} (hr : r ∈ rs) (hh : r.1 ∈ nms) {m : Nat} (ha : ∀ w ∈ r.2, isNm w = true → w ∈ f ∧ H w ≤ m) (hm : m ≤ f.length) :
    HI rs nms (if r.1 ∈ f then f else f ++ [r.1]) (updH H r.1 (min (if r.1 ∈ f then H r.1 else m + 1) (m + 1))) := by
  by_cases c : r.1 ∈ f
  · rw [if_pos c, if_pos c]
    obtain ⟨l1, l2⟩ := I.le r.1 c
    have dn : ∀ w, updH H r.1 (min (H r.1) (m + 1)) w ≤ H w := fun w => by
      unfold updH
      split
      · rename_i e; rw [e]; exact Nat.min_le_left _ _
      · exact Nat.le_refl _
    refine ⟨I.nd, I.sub, fun n hn => ?_, fun n hn => ?_⟩
    · obtain ⟨a, b⟩ := I.le n hn
      refine ⟨?_, Nat.le_trans (dn n) b⟩
      unfold updH
      split
      · omega
      · exact a
    · obtain ⟨r', hr', e', w'⟩ := I.wit n hn
      by_cases en : n = r.1
      · by_cases lt : m + 1 < H r.1
        · refine ⟨r, hr, en.symm, fun w hw hn2 => ?_⟩
          obtain ⟨a, b⟩ := ha w hw hn2
          refine ⟨a, ?_⟩
          have d := dn w
          have : updH H r.1 (min (H r.1) (m + 1)) n = m + 1 := by
            unfold updH
            rw [if_pos en]
            omega
          omega
        · refine ⟨r', hr', e', fun w hw hn2 => ?_⟩
          obtain ⟨a, b⟩ := w' w hw hn2
          refine ⟨a, ?_⟩
          have d := dn w
          have : updH H r.1 (min (H r.1) (m + 1)) n = H n := by
            unfold updH
            rw [if_pos en, en]
            omega
          omega
      · refine ⟨r', hr', e', fun w hw hn2 => ?_⟩
        obtain ⟨a, b⟩ := w' w hw hn2
        refine ⟨a, ?_⟩
        have d := dn w
        have : updH H r.1 (min (H r.1) (m + 1)) n = H n := by
          unfold updH
          rw [if_neg en]
        omega
  · rw [if_neg c, if_neg c, Nat.min_self]
    have ne : ∀ {w}, w ∈ f → w ≠ r.1 := fun hw z => c (z ▸ hw)
    have up : ∀ {w}, w ∈ f → updH H r.1 (m + 1) w = H w := fun hw => by unfold updH; rw [if_neg (ne hw)]
    have ur : updH H r.1 (m + 1) r.1 = m + 1 := by unfold updH; rw [if_pos rfl]
    refine ⟨List.nodup_append.mpr ⟨I.nd, by simp, fun a ha b hb => by rw [List.mem_singleton.mp hb]; exact ne ha⟩, fun n hn => ?_, fun n hn => ?_, fun n hn => ?_⟩
    · rcases List.mem_append.mp hn with hn | hn
      · exact I.sub n hn
      · rw [List.mem_singleton.mp hn]
        exact ⟨hh, Fru.mk hr fun w hw hn2 => (I.sub w (ha w hw hn2).1).2⟩
    · rw [List.length_append, List.length_singleton]
      rcases List.mem_append.mp hn with hn | hn
      · rw [up hn]
        have := I.le n hn
        omega
      · rw [List.mem_singleton.mp hn, ur]
        omega
    · rcases List.mem_append.mp hn with hn | hn
      · obtain ⟨r', hr', e', w'⟩ := I.wit n hn
        refine ⟨r', hr', e', fun w hw hn2 => ?_⟩
        obtain ⟨a, b⟩ := w' w hw hn2
        rw [up a, up hn]
        exact ⟨List.mem_append_left _ a, b⟩
      · rw [List.mem_singleton.mp hn]
        refine ⟨r, hr, rfl, fun w hw hn2 => ?_⟩
        obtain ⟨a, b⟩ := ha w hw hn2
        rw [up a, ur]
        exact ⟨List.mem_append_left _ a, by omega⟩
theorem hi_nil (rs : List Row) (nms : List Str) (H : Str → Nat) : HI rs nms [] H := ⟨List.nodup_nil, fun n h => (by cases h), fun n h => (by cases h), fun n h => (by cases h)⟩
def mx : List Nat → Nat
  | [] => 0
  | x :: l => max x (mx l)
theorem mx_le {l : List Nat} : ∀ {x : Nat}, x ∈ l → x ≤ mx l := by
  induction l with
  | nil => intro x h; cases h
  | cons y l ih =>
    intro x h
    unfold mx
    rcases List.mem_cons.mp h with rfl | h
    · exact Nat.le_max_left _ _
    · exact Nat.le_trans (ih h) (Nat.le_max_right _ _)
theorem mx_in : ∀ (l : List Nat), mx l = 0 ∨ mx l ∈ l
  | [] => .inl rfl
  | y :: l => by
    unfold mx
    rcases Nat.le_total y (mx l) with h | h
    · rw [Nat.max_eq_right h]
      exact (mx_in l).imp id (List.mem_cons_of_mem _)
    · rw [Nat.max_eq_left h]
      exact .inr List.mem_cons_self
def nml (r : Row) : List Str := r.2.filter isNm
def hiR (H : Str → Nat) (r : Row) : Nat := 1 + mx ((nml r).map H)
theorem mx_of {l : List Nat} {m : Int} (hm : m ∈ l.map (fun x : Nat => (x : Int)) ++ [0]) (h : ∀ y, y ∈ l.map (fun x : Nat => (x : Int)) ++ [0] → y ≤ m) : m = mx l := by
  have a : (mx l : Int) ≤ m := by
    rcases mx_in l with e | e
    · rw [e]; exact h 0 (List.mem_append_right _ List.mem_cons_self)
    · exact h _ (List.mem_append_left _ (List.mem_map.mpr ⟨_, e, rfl⟩))
  rcases List.mem_append.mp hm with e | e
  · obtain ⟨x, hx, rfl⟩ := List.mem_map.mp e
    have := mx_le hx
    omega
  · have := List.mem_singleton.mp e
    omega
theorem nml_eq (r : Row) : ((r.2.map Dv.str).filterMap fun d => if isNm (strD d) = true then some d else none) = (nml r).map Dv.str := by
  unfold nml
  induction r.2 with
  | nil => rfl
  | cons w ws ih =>
    rw [List.map_cons, List.filterMap_cons, List.filter_cons, ih]
    have e : strD (.str w) = w := rfl
    rw [e]
    cases h : isNm w <;> simp
theorem out_eq (f : List Str) : ∀ l : List Str, ((l.map Dv.str).filterMap fun d => if ¬ strD d ∈ f then some d else none) = (l.filter fun w => !decide (w ∈ f)).map Dv.str
  | [] => rfl
  | w :: l => by
    rw [List.map_cons, List.filterMap_cons, List.filter_cons, out_eq f l]
    have e : strD (.str w) = w := rfl
    rw [e]
    by_cases h : w ∈ f <;> simp [h]
theorem nml_len {r : Row} (b : r.2.length ≤ 4) : (nml r).length ≤ 4 := Nat.le_trans (List.length_filter_le _ _) b
theorem nml_mem {r : Row} {w : Str} : w ∈ nml r ↔ w ∈ r.2 ∧ isNm w = true := List.mem_filter
end L73

namespace L73
open PySem L2 G3
set_option exponentiation.threshold 4000
theorem aheights_sp {t : Str} {nms A : List Str} {rs : List Row} (U : Rul nms A t rs) {h : Mh} {Q : Kd}
    (q : ∀ p f H, h p = none → HI rs nms f H → (∀ n, n ∈ f ↔ Fru rs n) → Q (.ref p) (mput h p (.dK (kvH f H)))) : sp_l_aheights [rulesD t rs] h Q := by
  obtain ⟨R, W, hl, hn, ot, hnm⟩ := U
  refine ⟨rfl, ?_⟩
  refine seq_step ?_
  simp [-gSeq, -wFor, -wLc]
  intro p hp
  refine seq_step ?_
  unfold rulesD
  simp [-gSeq, -wFor, -wLc]
  refine ⟨by omega, ?_⟩
  refine wFor_inv _ (fun k ρ' h' => ∃ (a2 a3 a4 a5 a6 a7 : Option Dv) (f : List Str) (H : Str → Nat), ρ' = [some (.tup [.str t, .tup (rs.map rowD)]), some (.ref p), a2, a3, a4, a5, a6, a7] ∧ h' = mput h p (.dK (kvH f H)) ∧ HI rs nms f H ∧ ∀ n, fr rs k n = true → n ∈ f) _ _ (fun k d ρ' h' N hI hd hN => ?_) ⟨none, none, none, none, none, none, [], fun _ => 0, rfl, rfl, hi_nil _ _ _, fun n e => (by cases e)⟩ (fun ρ' h' hI => ?_)
  · obtain ⟨a2, a3, a4, a5, a6, a7, f, H, rfl, rfl, I, G⟩ := hI
    obtain ⟨hk, rfl⟩ := rng_get hd
    simp [-gSeq, -wFor, -wLc]
    refine wFor_inv _ (fun i ρ' h' => ∃ (a3 a4 a5 a6 a7 : Option Dv) (f : List Str) (H : Str → Nat), ρ' = [some (.tup [.str t, .tup (rs.map rowD)]), some (.ref p), some (.int k), a3, a4, a5, a6, a7] ∧ h' = mput h p (.dK (kvH f H)) ∧ HI rs nms f H ∧ (∀ n, fr rs k n = true → n ∈ f) ∧ ∀ r ∈ rs.take i, (∀ w ∈ r.2, isNm w = true → fr rs k w = true) → r.1 ∈ f) _ _ (fun i d ρ' h' N2 hI hd hN2 => ?_) ⟨a3, a4, a5, a6, a7, f, H, rfl, rfl, I, G, fun r hr => (by simp at hr)⟩ (fun ρ' h' hI => ?_)
    · obtain ⟨a3, a4, a5, a6, a7, f, H, rfl, rfl, I, G, T⟩ := hI
      rw [List.getElem?_map] at hd
      obtain ⟨r, hr, rfl⟩ := Option.map_eq_some_iff.mp hd
      have hm := List.mem_of_getElem? hr
      have b4 := R.bd r hm
      have fl := I.len
      have nl := nml_len b4
      have et : rs.take (i + 1) = rs.take i ++ [r] := by rw [List.take_add_one, hr]; rfl
      have kd : ∀ n : Str, DGetD (mput h p (Mo.dK (kvH f H))) (.ref p) (.str n) (if n ∈ f then some (.int (H n)) else none) := fun n => by
        have := DGetD.k (h := mput h p (Mo.dK (kvH f H))) (a := p) (kvs := kvH f H) (k := .inr n) (.inl mput_same)
        rwa [val_H] at this
      simp [ggCons, rowD, -gSeq, -wFor, -wLc]
      refine ⟨_, _, ⟨rfl, rfl⟩, _, _, rfl, rfl, ?_⟩
      refine seq_step ?_
      simp [-gSeq, -wFor, -wLc]
      refine wLc_some (fun d => if isNm (strD d) = true then some d else none) _ _ (fun d hd Q' R' z => ?_) (by rw [List.length_map, List.length_nil, sizeLine_val]; omega) ?_
      · obtain ⟨w, hw, rfl⟩ := List.mem_map.mp hd
        have ow := W.bd r hm w hw
        simp [-gSeq, -wFor, -wLc]
        refine ais_name_sp ow.sz ?_
        rw [ow.nm]
        have es : strD (.str w) = w := rfl
        rw [es] at z
        cases hw2 : isName (.str w)
        · have hn3 : isNm w = false := hw2
          rw [if_neg (by rw [hn3]; simp)] at z
          exact .inl ⟨rfl, z⟩
        · have hn3 : isNm w = true := hw2
          rw [if_pos hn3] at z
          exact .inr ⟨rfl, z⟩
      · rw [List.nil_append, nml_eq]
        refine wLc_some (fun d => if ¬ strD d ∈ f then some d else none) _ _ (fun d hd Q' R' z => ?_) (by rw [List.length_map, List.length_nil, sizeLine_val]; omega) ?_
        · obtain ⟨w, hw, rfl⟩ := List.mem_map.mp hd
          simp [-gSeq, -wFor, -wLc]
          refine ⟨_, kd w, ?_⟩
          have es : strD (.str w) = w := rfl
          rw [es] at z
          by_cases c : w ∈ f
          · rw [if_pos c, if_neg (by simp)]
            rw [if_neg (fun d => d c)] at z
            exact z
          · rw [if_neg c, if_pos (by simp)]
            rw [if_pos c] at z
            exact z
        · rw [List.nil_append, out_eq]
          simp [-gSeq, -wFor, -wLc]
          have next : ∀ (f' : List Str) (H' : Str → Nat) (b6 b7 : Option Dv), HI rs nms f' H' → (∀ n ∈ f, n ∈ f') → ((∀ w ∈ r.2, isNm w = true → fr rs k w = true) → r.1 ∈ f') → N2 [some (.tup [.str t, .tup (rs.map rowD)]), some (.ref p), some (.int k), some (.str r.1), some (.tup (r.2.map Dv.str)), some (.lst ((nml r).map Dv.str)), b6, b7] (mput h p (.dK (kvH f' H'))) := fun f' H' b6 b7 I' s c => by
            refine hN2 _ _ ⟨_, _, _, _, _, f', H', rfl, rfl, I', fun n e => s n (G n e), fun r2 hr2 hw => ?_⟩
            rw [et] at hr2
            rcases List.mem_append.mp hr2 with hr2 | hr2
            · exact s _ (T r2 hr2 hw)
            · rw [List.mem_singleton.mp hr2] at hw ⊢
              exact c hw
          by_cases c : ∀ a ∈ nml r, a ∈ f
          · rw [if_pos c]
            refine seq_step ?_
            simp [-gSeq, -wFor, -wLc]
            refine wLc_map (fun d => .int (H (strD d))) _ _ (fun d hd Q' R' z => ?_) (by rw [List.length_map, List.length_nil, sizeLine_val]; omega) ?_
            · obtain ⟨w, hw, rfl⟩ := List.mem_map.mp hd
              have kw := kd w
              rw [if_pos (c w hw)] at kw
              simp [-gSeq, -wFor, -wLc]
              exact ⟨_, kw, z⟩
            · rw [List.nil_append]
              have em : (((nml r).map Dv.str).map fun d => Dv.int (H (strD d))) ++ [Dv.int 0] = ((((nml r).map H).map fun x : Nat => (x : Int)) ++ [0]).map Dv.int := by
                simp [Function.comp_def, strD]
              simp only [List.length_map]
              rw [em]
              refine ⟨by omega, .lst _, _, rfl, rfl, by simp, fun m hm1 hy => ?_⟩
              have hm2 := mx_of hm1 hy
              subst hm2
              have e1 : (1 : Int) + ((mx ((nml r).map H) : Nat) : Int) = ((mx ((nml r).map H) + 1 : Nat) : Int) := by omega
              have ha : ∀ w ∈ r.2, isNm w = true → w ∈ f ∧ H w ≤ mx ((nml r).map H) := fun w h1 h2 => ⟨c w (nml_mem.mpr ⟨h1, h2⟩), mx_le (List.mem_map.mpr ⟨w, nml_mem.mpr ⟨h1, h2⟩, rfl⟩)⟩
              have hml : mx ((nml r).map H) ≤ f.length := by
                rcases mx_in ((nml r).map H) with e | e
                · rw [e]; exact Nat.zero_le _
                · obtain ⟨w, hw, e2⟩ := List.mem_map.mp e
                  rw [← e2]
                  exact (I.le w (c w hw)).2
              generalize mx ((nml r).map H) = m at e1 ha hml
              refine rAdd_int.mpr ⟨.inl ⟨_, _, rfl, .inl mput_same⟩, _, kd r.1, ?_⟩
              have e2 : ((if r.1 ∈ f then some (Dv.int (H r.1)) else none).getD (Dv.int (1 + (m : Int)))) = Dv.int ((if r.1 ∈ f then H r.1 else m + 1 : Nat) : Int) := by
                split
                · rfl
                · rw [e1]; rfl
              have I2 := I.put hm (R.hd r hm) ha hml
              rw [e2, e1]
              generalize (if r.1 ∈ f then H r.1 else m + 1) = o at I2 ⊢
              refine ⟨_, _, rfl, _, DPutD.k (k := .inr r.1) mput_same (by unfold kvH; rw [List.length_map, sizeLine_val]; omega), ?_⟩
              have e3 : (if ((m + 1 : Nat) : Int) < ((o : Nat) : Int) then ((m + 1 : Nat) : Int) else (o : Int)) = ((min o (m + 1) : Nat) : Int) := by
                split <;> omega
              rw [e3, put_H, mput_mput]
              refine next _ _ _ _ I2 (fun n hn => ?_) (fun _ => ?_)
              · split
                · exact hn
                · exact List.mem_append_left _ hn
              · split
                · rename_i z; exact z
                · exact List.mem_append_right _ List.mem_cons_self
          · rw [if_neg c]
            exact next f H _ _ I (fun n h => h) fun hw => absurd (fun a ha => (nml_mem.mp ha).elim fun h1 h2 => G a (hw a h1 h2)) c
    · obtain ⟨a3, a4, a5, a6, a7, f, H, rfl, rfl, I, G, T⟩ := hI
      rw [List.length_map, List.take_length] at T
      refine hN _ _ ⟨_, _, _, _, _, _, f, H, rfl, rfl, I, fun n e => ?_⟩
      obtain ⟨r, hr, e1, hw⟩ := fr_succ.mp e
      exact e1 ▸ T r hr hw
  · obtain ⟨a2, a3, a4, a5, a6, a7, f, H, rfl, rfl, I, G⟩ := hI
    rw [rng_len] at G
    simp
    refine q p f H hp I fun n => ⟨fun h => (I.sub n h).2, fun ⟨k, e⟩ => G n ?_⟩
    exact fr_most (nms := rs.map fun r => r.1) (fun r hr => List.mem_map.mpr ⟨r, hr, rfl⟩) (by rw [List.length_map]; exact Nat.le_refl _) e
end L73

namespace L73
open PySem L2 G3
set_option exponentiation.threshold 4000
theorem deqs_strs : ∀ xs ys : List Str, deqs (xs.map Dv.str) (ys.map Dv.str) = decide (xs = ys)
  | [], [] => by simp
  | [], y :: ys => by simp
  | x :: xs, [] => by simp
  | x :: xs, y :: ys => by
    have := deqs_strs xs ys
    by_cases e : x = y <;> simp [this, e]
theorem row_deq (a b : Str × List Str) : deq (rowD a) (rowD b) = decide (a = b) := by
  obtain ⟨x, xs⟩ := a
  obtain ⟨y, ys⟩ := b
  by_cases e : x = y <;> simp [rowD, deqs_strs, e]
theorem rows_in (x : Str × List Str) (rows : List (Str × List Str)) : isIn (rowD x) (rows.map rowD) = decide (x ∈ rows) := by
  unfold isIn
  rw [List.any_map, Bool.eq_iff_iff, List.any_eq_true, decide_eq_true_eq]
  constructor
  · rintro ⟨y, hy, e⟩
    have e2 : deq (rowD y) (rowD x) = true := e
    rw [row_deq] at e2
    have : y = x := by simpa using e2
    exact this ▸ hy
  · intro h
    refine ⟨x, h, ?_⟩
    show deq (rowD x) (rowD x) = true
    rw [row_deq]
    simp
theorem rows_dat : ∀ rows : List (Str × List Str), dats (rows.map rowD) = true
  | [] => rfl
  | r :: rows => by
    have := rows_dat rows
    simp [rowD, this]

/-! ### drawn words -/
def Sp (X Y : List Nat) (w : Str) : Prop := ∃ c cs, w.cps.toList = c :: cs ∧ cs.length ≤ 5 ∧ c ∈ X ∧ ∀ x ∈ cs, x ∈ Y
def SpD (X Y : List Nat) (d : Dv) : Prop := ∃ w, d = .str w ∧ Sp X Y w
def cAZ : List Nat := (Str.ofString "ABCDEFGHIJKLMNOPQRSTUVWXYZ").cps.toList
def cSm : List Nat := (Str.ofString "abcdefghijklmnopqrstuvwxyz").cps.toList
def cSF : List Nat := (Str.ofString "abcdefghijklmnopqrstuvwxyz0123456789").cps.toList
theorem letter_of {z : Str} {d : Dv} (h : d ∈ z.cps.toList.map fun c => Dv.str { cps := #[c] }) : ∃ c, c ∈ z.cps.toList ∧ d = .str { cps := #[c] } := by
  obtain ⟨c, hc, rfl⟩ := List.mem_map.mp h
  exact ⟨c, hc, rfl⟩
theorem aN_head {w : Str} {c : Nat} {cs : List Nat} (e : w.cps.toList = c :: cs) : aisN w = decide (c ∈ cAZ) := by
  unfold aisN
  have len : w.length = cs.length + 1 := by rw [str_len, e]; rfl
  have e1 : cutS w none (some 1) = (⟨#[c]⟩ : Str) := by
    unfold cutS HT.sIx
    have : min 1 w.length = 1 := by omega
    simp [e, this]
  have e2 : (w == ("" : Str)) = false := by
    rw [beq_eq_false_iff_ne]
    rintro rfl
    cases e
  rw [e1, e2, strIn_one]
  simp [cAZ]
theorem okN_of {w : Str} (h : Sp cAZ cSF w) : OkN w := by
  obtain ⟨c, cs, e, l, hc, hcs⟩ := h
  have len : w.length = cs.length + 1 := by rw [str_len, e]; rfl
  have nm : isName (.str w) = true := by
    have e0 : head w = (⟨#[c]⟩ : Str) := by unfold head; rw [e]; rfl
    have e1 : (cutS w (some 1) none).cps.toList = cs := by
      unfold cutS HT.sIx
      simp [e, len]
    show (decide (0 < w.length ∧ w.length ≤ 6) && (strIn (head w) k_GREAT && allIn (k_SMALL ++ k_FIGURES) (cutS w (some 1) none))) = true
    rw [decide_eq_true (show 0 < w.length ∧ w.length ≤ 6 by omega), Bool.true_and, e0, strIn_one]
    have g : decide (c ∈ k_GREAT.cps.toList) = true := decide_eq_true (show c ∈ k_GREAT.cps.toList from by
      have : k_GREAT.cps.toList = cAZ := by decide +kernel
      rw [this]; exact hc)
    rw [g, Bool.true_and]
    unfold allIn
    rw [e1, List.all_map, List.all_eq_true]
    intro x hx
    show strIn ⟨#[x]⟩ _ = true
    rw [strIn_one]
    refine decide_eq_true ?_
    have : (k_SMALL ++ k_FIGURES : Str).cps.toList = cSF := by decide +kernel
    rw [this]
    exact hcs x hx
  have h128 : ∀ x ∈ w.cps.toList, x < 128 := by
    intro x hx
    rw [e] at hx
    rcases List.mem_cons.mp hx with rfl | hx
    · exact (by decide +kernel : ∀ x ∈ cAZ, x < 128) x hc
    · exact (by decide +kernel : ∀ x ∈ cSF, x < 128) x (hcs x hx)
  exact ⟨⟨⟨by omega, h128⟩, by rw [nm, aN_head e]; exact decide_eq_true hc⟩, nm⟩
def OkS (w : Str) : Prop := OkW w ∧ isNm w = false
theorem okS_of {w : Str} {c : Nat} {cs : List Nat} (e : w.cps.toList = c :: cs) (l : cs.length ≤ 5) (hc : c ∉ cAZ) (h : ∀ x ∈ c :: cs, x < 128) : OkS w := by
  have len : w.length = cs.length + 1 := by rw [str_len, e]; rfl
  have nm : isName (.str w) = false := by
    have e0 : head w = (⟨#[c]⟩ : Str) := by unfold head; rw [e]; rfl
    show (decide (0 < w.length ∧ w.length ≤ 6) && (strIn (head w) k_GREAT && allIn (k_SMALL ++ k_FIGURES) (cutS w (some 1) none))) = false
    rw [e0, strIn_one]
    have g : decide (c ∈ k_GREAT.cps.toList) = false := decide_eq_false (by
      have : k_GREAT.cps.toList = cAZ := by decide +kernel
      rw [this]; exact hc)
    rw [g, Bool.false_and, Bool.and_false]
  exact ⟨⟨⟨by omega, by rw [e]; exact h⟩, by rw [nm, aN_head e]; exact decide_eq_false hc⟩, nm⟩
theorem okS_sp {w : Str} (h : Sp cSm cSm w) : OkS w := by
  obtain ⟨c, cs, e, l, hc, hcs⟩ := h
  refine okS_of e l ((by decide +kernel : ∀ x ∈ cSm, x ∉ cAZ) c hc) fun x hx => ?_
  rcases List.mem_cons.mp hx with rfl | hx
  · exact (by decide +kernel : ∀ x ∈ cSm, x < 128) x hc
  · exact (by decide +kernel : ∀ x ∈ cSm, x < 128) x (hcs x hx)
theorem aword_sp {a : Addr} {n : Nat} {z y0 : Str} {m : Nat} {h : Mh} {Q : Kd} (f : Feed h a n) (hn : n + 100 < 2 ^ 50) (hz : 0 < z.length) (hz2 : z.length ≤ 1000) (hy : 0 < y0.length) (hy2 : y0.length ≤ 1000) (hm : m ≤ 1000) {Y : List Nat} (hY : ∀ c ∈ y0.cps.toList, c ∈ Y) (hY2 : ∀ c ∈ cSm, c ∈ Y) (q : ∀ ds h', ds.length = m → (∀ d ∈ ds, SpD z.cps.toList Y d) → Feed h' a (n + 10) → Q (.lst ds) h') : sp_l_aword [.ref a, .str z, .str y0, .int m] h Q := by
  refine ⟨rfl, ?_⟩
  have zl : (z.cps.toList.map fun c => Dv.str { cps := #[c] }).length = z.length := by rw [List.length_map, ← str_len]
  have yl : (y0.cps.toList.map fun c => Dv.str { cps := #[c] }).length = y0.length := by rw [List.length_map, ← str_len]
  have ls : sizeLine = 16777216 := sizeLine_val
  refine seq_step ?_
  simp [-gSeq, -wFor, -wLc]
  refine ⟨by omega, adraw_sp f (by omega) (by omega) (by omega) fun r h1 r0 r1 f1 _ => ?_⟩
  obtain ⟨d, hd, hm⟩ := atI_ok (xs := z.cps.toList.map fun c => Dv.str { cps := #[c] }) r0 (by rw [zl]; exact r1)
  refine walk_ix walkOf_str (by rw [zl]; omega) hd ?_
  obtain ⟨c0, hc0, rfl⟩ := letter_of hm
  refine seq_step ?_
  simp [-gSeq, -wFor, -wLc]
  refine adraw_sp f1 (by omega) (by decide) (by decide) fun s h2 s0 s1 f2 _ => ?_
  obtain ⟨x, hx, k, rfl, k0, k1⟩ := atI_pick (xs := [Dv.int 0, Dv.int 0, Dv.int 1, Dv.int 4]) (fun x => ∃ k : Int, x = .int k ∧ 0 ≤ k ∧ k ≤ 4) s0 s1 (fun x hx => by
    simp only [List.mem_cons, List.not_mem_nil, or_false] at hx
    rcases hx with rfl | rfl | rfl | rfl <;> exact ⟨_, rfl, by decide, by decide⟩)
  refine rIx_lst.mpr ⟨_, hx, ?_⟩
  simp [-gSeq, -wFor, -wLc]
  refine ⟨by omega, by omega, ?_⟩
  refine wFor_inv _ (fun i ρ' h' => ∃ (v5 : Option Dv) (y : Str), ρ' = [some (.ref a), some (.str z), some (.str y0), some (.int m), some (.str y), v5, none] ∧ (∃ cs, y.cps.toList = c0 :: cs ∧ cs.length ≤ i ∧ ∀ x ∈ cs, x ∈ Y) ∧ Feed h' a (n + 2 + i)) _ _ (fun i d ρ' h' N hI hd hN => ?_) ⟨none, _, rfl, ⟨[], rfl, Nat.zero_le _, fun x hx => (by cases hx)⟩, f2.mono (by omega)⟩ (fun ρ' h' hI => ?_)
  · obtain ⟨v5, y, rfl, ⟨cs, ey, cl, cY⟩, f3⟩ := hI
    have yl2 : y.length = cs.length + 1 := by rw [str_len, ey]; rfl
    have hi := (rng_get hd).1
    simp [-gSeq, -wFor, -wLc]
    refine ⟨by omega, adraw_sp f3 (by omega) (by omega) (by omega) fun r h3 r0 r1 f4 _ => ?_⟩
    obtain ⟨d, hd2, hm2⟩ := atI_ok (xs := y0.cps.toList.map fun c => Dv.str { cps := #[c] }) r0 (by rw [yl]; exact r1)
    refine walk_ix walkOf_str (by rw [yl]; omega) hd2 ?_
    obtain ⟨c, hc, rfl⟩ := letter_of hm2
    have k1 : ({ cps := #[c] } : Str).length = 1 := rfl
    simp
    refine ⟨by omega, hN _ _ ⟨_, _, rfl, ⟨cs ++ [c], by rw [str_append, ey]; rfl, by rw [List.length_append, List.length_singleton]; omega, fun x hx => ?_⟩, f4.mono (by omega)⟩⟩
    rcases List.mem_append.mp hx with hx | hx
    · exact cY x hx
    · rw [List.mem_singleton.mp hx]; exact hY c hc
  · obtain ⟨v5, y, rfl, ⟨cs, ey, cl, cY⟩, f3⟩ := hI
    rw [rng_len] at cl f3
    have yl2 : y.length = cs.length + 1 := by rw [str_len, ey]; rfl
    simp [-gSeq, -wFor, -wLc]
    refine seq_step ?_
    simp [-gSeq, -wFor, -wLc]
    refine adraw_sp f3 (by omega) (by decide) (by decide) fun r h3 r0 r1 f4 _ => ?_
    refine ⟨by omega, ?_⟩
    refine wLc_inv (SpD z.cps.toList Y) _ _ (fun i h' => h' = h3) _ (fun i d h' Q' R e hd2 q' => ?_) rfl (by simp [rng]; omega) (fun ys h' e al eh => ?_)
    · subst e
      obtain ⟨hi, rfl⟩ := rng_get hd2
      simp
      have l26 : (Str.ofString "abcdefghijklmnopqrstuvwxyz").cps.toList.length = 26 := by decide +kernel
      obtain ⟨c, hc, hcm⟩ := atI_ok (xs := (Str.ofString "abcdefghijklmnopqrstuvwxyz").cps.toList) (i := (r + 7 * (i : Int)) % 26) (Int.emod_nonneg _ (by decide)) (by rw [l26]; exact Int.emod_lt_of_pos _ (by decide))
      have l1 : ({ cps := #[c] } : Str).length = 1 := rfl
      refine ⟨mulOk (by decide) (by omega), by decide, c, hc, by omega, q' _ _ ⟨_, rfl, c0, cs ++ [c], by rw [str_append, ey]; rfl, by rw [List.length_append, List.length_singleton]; omega, hc0, fun x hx => ?_⟩ rfl⟩
      rcases List.mem_append.mp hx with hx | hx
      · exact cY x hx
      · rw [List.mem_singleton.mp hx]; exact hY2 c hcm
    · subst eh
      rw [rng_len] at e
      rw [List.nil_append]
      exact q ys _ (by omega) al (f4.mono (by omega))



def OkSD (d : Dv) : Prop := ∃ w, d = .str w ∧ OkS w
theorem asigns_sp {a : Addr} {n m : Nat} {h : Mh} {Q : Kd} (f : Feed h a n) (hn : n + 200 < 2 ^ 50) (hm : 1 ≤ m) (hm2 : m ≤ 6) (q : ∀ ds h', 1 ≤ ds.length → ds.length ≤ 6 → (∀ d ∈ ds, OkSD d) → Feed h' a (n + 20) → Q (.lst ds) h') : sp_l_aall_signs [.ref a, .int m] h Q := by
  refine ⟨rfl, ?_⟩
  refine seq_step ?_
  simp [-gSeq, -wFor, -wLc]
  refine seq_step ?_
  simp [-gSeq, -wFor, -wLc]
  refine aword_sp f (by omega) (by decide) (by decide) (by decide) (by decide) (by omega) (Y := cSm) (fun c hc => hc) (fun c hc => hc) fun ds h1 hl hw0 f1 => ?_
  have hw : ∀ d ∈ ds, OkSD d := fun d hd => let ⟨w, e, s⟩ := hw0 d hd; ⟨w, e, okS_sp s⟩
  refine seq_step ?_
  simp [-gSeq, -wFor, -wLc]
  refine adraw_sp f1 (by omega) (by decide) (by decide) fun r h2 r0 r1 f2 _ => ?_
  refine ⟨by simp, ?_⟩
  by_cases hr : r = 0
  · subst hr
    rw [if_pos (by simp)]
    refine seq_step ?_
    simp [-gSeq, -wFor, -wLc]
    refine adraw_sp f2 (by omega) (by decide) (by decide) fun t h3 t0 t1 f3 _ => ?_
    refine seq_step ?_
    simp [-gSeq, -wFor, -wLc]
    refine ⟨by omega, ?_⟩
    have l16 : ((Str.ofString "+-*/()<>") ++ (Str.ofString "+-*/()<>") : Str).cps.toList.length = 16 := by decide +kernel
    refine wLc_inv OkSD _ _ (fun i h' => h' = h3) _ (fun i d h' Q' R e hd2 q' => ?_) rfl (by simp [rng]; omega) (fun ys h' e al eh => ?_)
    · subst e
      obtain ⟨hi, rfl⟩ := rng_get hd2
      simp
      obtain ⟨c, hc, hcm⟩ := atI_ok (xs := ((Str.ofString "+-*/()<>") ++ (Str.ofString "+-*/()<>") : Str).cps.toList) (i := t + (i : Int)) (by omega) (by rw [l16]; omega)
      exact ⟨by decide, by decide +kernel, c, hc, q' _ _ ⟨_, rfl, okS_of rfl (Nat.zero_le _) ((by decide +kernel : ∀ x ∈ ((Str.ofString "+-*/()<>") ++ (Str.ofString "+-*/()<>") : Str).cps.toList, x ∉ cAZ) c hcm) fun x hx => by rw [List.mem_singleton.mp hx]; exact (by decide +kernel : ∀ x ∈ ((Str.ofString "+-*/()<>") ++ (Str.ofString "+-*/()<>") : Str).cps.toList, x < 128) c hcm⟩ rfl⟩
    · subst eh
      rw [rng_len] at e
      have d2 : (0 : Int) ≤ (m : Int) / 2 := by omega
      rw [List.nil_append, cutD_to d2, cutD_from d2]
      refine ⟨divOk (by omega) (by decide), ?_, q _ _ ?_ ?_ (fun d hd => ?_) (f3.mono (by omega))⟩
      · simp only [List.length_take, List.length_drop]; omega
      · simp only [List.length_append, List.length_take, List.length_drop]; omega
      · simp only [List.length_append, List.length_take, List.length_drop]; omega
      · rcases List.mem_append.mp hd with hd | hd
        · exact al d (List.mem_of_mem_take hd)
        · exact hw d (List.mem_of_mem_drop hd)
  · rw [if_neg (by simpa using hr)]
    exact q _ _ (by omega) (by omega) hw (f2.mono (by omega))

structure RowOk (nms : List Str) (x : Str × List Str) : Prop where
  hd : x.1 ∈ nms
  l : x.2.length ≤ 4
  w : ∀ w ∈ x.2, OkW w
theorem rul_of {nms : List Str} {t : Str} {rows : List (Str × List Str)} (hn : ∀ w ∈ nms, OkN w) (n6 : nms.length ≤ 6) (ht : t ∈ nms) (l : rows.length ≤ 16) (ro : ∀ x ∈ rows, RowOk nms x) : Rul nms (rows.flatMap fun r => r.2) t rows :=
  { R := { hd := fun r hr => (ro r hr).hd, bd := fun r hr => (ro r hr).l, sg := fun r hr w hw _ => List.mem_flatMap.mpr ⟨r, hr, hw⟩ }, W := { hd := fun r hr => (hn _ (ro r hr).hd).w, bd := fun r hr => (ro r hr).w }, l := l, n := n6, ot := (hn t ht).w, hnm := fun r hr => (hn _ (ro r hr).hd).nm }
def OkDv (d : Dv) : Prop := ∃ w, d = .str w ∧ OkW w
theorem awide_sp {a : Addr} {n : Nat} {h : Mh} {Q : Kd} (f : Feed h a n) (hn : n + 1000 < 2 ^ 50) (q : ∀ (t : Str) (rows : List (Str × List Str)) nms h', Rul nms (rows.flatMap fun r => r.2) t rows → Feed h' a (n + 600) → Q (rulesD t rows) h') : sp_l_awide_rules [.ref a] h Q := by
  refine ⟨rfl, ?_⟩
  refine seq_step ?_
  simp [-gSeq, -wFor, -wLc]
  refine seq_step ?_
  simp [-gSeq, -wFor, -wLc]
  refine seq_step ?_
  simp [-gSeq, -wFor, -wLc]
  refine adraw_sp f (by omega) (by decide) (by decide) fun r h1 r0 r1 f1 _ => ?_
  obtain ⟨m, rfl⟩ : ∃ m : Nat, r = m := ⟨r.toNat, by omega⟩
  have e1 : (1 : Int) + (m : Int) = ((1 + m : Nat) : Int) := by omega
  refine rAdd_int.mpr ?_
  rw [e1]
  refine aword_sp f1 (by omega) (by decide) (by decide) (by decide) (by decide) (by omega) (Y := cSF) (fun c hc => hc) (by decide +kernel) fun names h2 nl nw0 f2 => ?_
  obtain ⟨nms, rfl, hnms⟩ : ∃ nms : List Str, names = nms.map Dv.str ∧ ∀ w ∈ nms, OkN w := by
    clear nl
    induction names with
    | nil => exact ⟨[], rfl, fun w hw => by cases hw⟩
    | cons d ds ih =>
      obtain ⟨w, rfl, hw⟩ := nw0 d List.mem_cons_self
      obtain ⟨ws, rfl, hws⟩ := ih fun d hd => nw0 d (List.mem_cons_of_mem _ hd)
      refine ⟨w :: ws, rfl, fun x hx => ?_⟩
      rcases List.mem_cons.mp hx with rfl | hx
      · exact okN_of hw
      · exact hws x hx
  rw [List.length_map] at nl
  have nw : ∀ d ∈ nms.map Dv.str, OkDv d := fun d hd => by
    obtain ⟨w, hw, rfl⟩ := List.mem_map.mp hd
    exact ⟨w, rfl, (hnms w hw).w⟩
  refine seq_step ?_
  simp [-gSeq, -wFor, -wLc]
  refine adraw_sp f2 (by omega) (by decide) (by decide) fun r h3 r0 r1 f3 _ => ?_
  obtain ⟨m2, rfl⟩ : ∃ m : Nat, r = m := ⟨r.toNat, by omega⟩
  have e2 : (1 : Int) + (m2 : Int) = ((1 + m2 : Nat) : Int) := by omega
  refine rAdd_int.mpr ?_
  rw [e2]
  refine asigns_sp f3 (by omega) (by omega) (by omega) fun signs h4 sl sl2 sw0 f4 => ?_
  have sw : ∀ d ∈ signs, OkDv d := fun d hd => let ⟨w, e, s⟩ := sw0 d hd; ⟨w, e, s.1⟩
  refine seq_step ?_
  simp [-gSeq, -wFor, -wLc]
  intro p hp
  have na : p ≠ a := fun z => by
    obtain ⟨c, x, y, e, _, _⟩ := f4
    rw [← z, hp] at e
    cases e
  have f5 : Feed (mput h4 p (.lst [])) a (n + 1 + 10 + 1 + 20) := by
    obtain ⟨c, x, y, e, u, v⟩ := f4
    exact ⟨c, x, y, by rw [mput_ne (Ne.symm na)]; exact e, u, v⟩
  have hp5 : (mput h4 p (.lst [])) p = some (.lst (([] : List (Str × List Str)).map rowD)) := mput_same
  generalize mput h4 p (.lst []) = h5 at f5 hp5
  refine seq_step ?_
  simp [-gSeq, -wFor, -wLc]
  refine adraw_sp f5 (by omega) (by decide) (by decide) fun s h6 s0 s1 f6 o6 => ?_
  obtain ⟨x, hx, k, rfl, k0, k1⟩ := atI_pick (xs := [Dv.int 4, Dv.int 16]) (fun x => ∃ k : Int, x = .int k ∧ 4 ≤ k ∧ k ≤ 16) s0 s1 (fun x hx => by
    simp only [List.mem_cons, List.not_mem_nil, or_false] at hx
    rcases hx with rfl | rfl <;> exact ⟨_, rfl, by decide, by decide⟩)
  refine rIx_lst.mpr ⟨_, hx, ?_⟩
  refine adraw_sp f6 (by omega) (by omega) (by omega) fun u h7 u0 u1 f7 o7 => ?_
  have hp7 : h7 p = some (.lst (([] : List (Str × List Str)).map rowD)) := by rw [o7 p na, o6 p na]; exact hp5
  simp [-gSeq, -wFor, -wLc]
  refine ⟨by omega, by omega, ?_⟩
  refine wFor_inv _ (fun i ρ' h' => ∃ v6 v7 v8 v9 v10, ∃ rows : List (Str × List Str), ρ' = [some (.ref a), some (.str "ABCDEFGHIJKLMNOPQRSTUVWXYZ"), some (.str "abcdefghijklmnopqrstuvwxyz0123456789"), some (.lst (nms.map Dv.str)), some (.lst signs), some (.ref p), v6, v7, v8, v9, v10] ∧ h' p = some (.lst (rows.map rowD)) ∧ rows.length ≤ i ∧ (∀ x ∈ rows, RowOk nms x) ∧ Feed h' a (n + 100 + 20 * i)) _ _ (fun i d ρ' h' N hI hd hN => ?_) ⟨none, none, none, none, none, [], rfl, hp7, by simp, (fun x hx => by cases hx), f7.mono (by omega)⟩ (fun ρ' h' hI => ?_)
  · obtain ⟨v6, v7, v8, v9, v10, rows, rfl, hpr, rl, ro, f8⟩ := hI
    have hi := (rng_get hd).1
    simp only [ggName]
    refine seq_step ?_
    simp [-gSeq, -wFor, -wLc]
    refine adraw_sp f8 (by omega) (by omega) (by omega) fun r h8 r0 r1 f9 o9 => ?_
    obtain ⟨x, hx, hxm⟩ := atI_ok (xs := nms.map Dv.str) r0 (by rw [List.length_map]; omega)
    refine rIx_lst.mpr ⟨_, hx, ?_⟩
    obtain ⟨hd, hdm, rfl⟩ := List.mem_map.mp hxm
    refine seq_step ?_
    simp [-gSeq, -wFor, -wLc]
    refine seq_step ?_
    simp [-gSeq, -wFor, -wLc]
    refine adraw_sp f9 (by omega) (by decide) (by decide) fun c h9 c0 c1 f10 o10 => ?_
    have hp9 : h9 p = some (.lst (rows.map rowD)) := by rw [o10 p na, o9 p na]; exact hpr
    refine ⟨c, rfl, by omega, by omega, ?_⟩
    refine wFor_inv _ (fun j ρ' h' => ∃ v9 v10, ∃ b : List Str, ρ' = [some (.ref a), some (.str "ABCDEFGHIJKLMNOPQRSTUVWXYZ"), some (.str "abcdefghijklmnopqrstuvwxyz0123456789"), some (.lst (nms.map Dv.str)), some (.lst signs), some (.ref p), some d, some (.str hd), some (.tup (b.map Dv.str)), v9, v10] ∧ h' p = some (.lst (rows.map rowD)) ∧ b.length ≤ j ∧ (∀ w ∈ b, OkW w) ∧ Feed h' a (n + 100 + 20 * i + 2 + 2 * j)) _ _ (fun j e ρ' h' N2 hI hd2 hN2 => ?_) ⟨v9, v10, [], rfl, hp9, by simp, (fun x hx => by cases hx), f10.mono (by omega)⟩ (fun ρ' h' hI => ?_)
    · obtain ⟨v9, v10, b, rfl, hpb, bl, bo, f11⟩ := hI
      have hj := (rng_get hd2).1
      simp only [ggName]
      refine seq_step ?_
      simp [-gSeq, -wFor, -wLc]
      refine adraw_sp f11 (by omega) (by decide) (by decide) fun r2 h10 r20 r21 f12 o12 => ?_
      obtain ⟨y, hy, es, rfl, el, el2, eo⟩ := atI_pick (xs := [Dv.lst (nms.map Dv.str), Dv.lst signs, Dv.lst signs]) (fun x => ∃ es, x = .lst es ∧ 1 ≤ es.length ∧ es.length ≤ 6 ∧ ∀ d ∈ es, OkDv d) r20 r21 (fun x hx => by
        simp only [List.mem_cons, List.not_mem_nil, or_false] at hx
        rcases hx with rfl | rfl | rfl
        · exact ⟨_, rfl, by rw [List.length_map]; omega, by rw [List.length_map]; omega, nw⟩
        · exact ⟨_, rfl, by omega, by omega, sw⟩
        · exact ⟨_, rfl, by omega, by omega, sw⟩)
      refine rIx_lst.mpr ⟨_, hy, ?_⟩
      simp [-gSeq, -wFor, -wLc]
      refine adraw_sp f12 (by omega) (by omega) (by omega) fun r3 h11 r30 r31 f13 o13 => ?_
      obtain ⟨y, hy, hym⟩ := atI_ok (xs := es) r30 r31
      obtain ⟨w, rfl, hw⟩ := eo y hym
      refine rIx_lst.mpr ⟨_, hy, ?_⟩
      have hpb2 : h11 p = some (.lst (rows.map rowD)) := by rw [o13 p na, o12 p na]; exact hpb
      have q2 := hN2 _ h11 ⟨some e, some (.lst es), b ++ [w], rfl, hpb2, by rw [List.length_append, List.length_singleton]; omega, fun x hx => by
        rcases List.mem_append.mp hx with hx | hx
        · exact bo x hx
        · rw [List.mem_singleton.mp hx]; exact hw, f13.mono (by omega)⟩
      rw [List.map_append] at q2
      exact ⟨by omega, q2⟩
    · obtain ⟨v9, v10, b, rfl, hpb, bl, bo, f11⟩ := hI
      rw [rng_len] at bl f11
      dsimp only
      have bl4 : b.length ≤ 4 := by omega
      have e : isIn (.tup [.str hd, .tup (b.map Dv.str)]) (rows.map rowD) = decide ((hd, b) ∈ rows) := rows_in (hd, b) rows
      simp [-gSeq, -isIn, hpb, rows_dat, e]
      by_cases hm : (hd, b) ∈ rows
      · exact .inl ⟨hm, hN _ _ ⟨_, _, _, _, _, rows, rfl, hpb, by omega, ro, f11.mono (by omega)⟩⟩
      · refine .inr ⟨hm, by omega, hN _ _ ⟨_, _, _, _, _, rows ++ [(hd, b)], rfl, ?_, by rw [List.length_append, List.length_singleton]; omega, fun x hx => ?_, ?_⟩⟩
        · rw [mput_same, List.map_append]
          rfl
        · rcases List.mem_append.mp hx with hx | hx
          · exact ro x hx
          · rw [List.mem_singleton.mp hx]
            exact ⟨hdm, bl4, bo⟩
        · obtain ⟨c', x, y, e, u, v⟩ := f11
          exact ⟨c', x, y, by rw [mput_ne (Ne.symm na)]; exact e, u, by omega⟩
  · obtain ⟨v6, v7, v8, v9, v10, rows, rfl, hpr, rl, ro, f8⟩ := hI
    rw [rng_len] at rl f8
    dsimp only
    obtain ⟨t, ht⟩ : ∃ t, nms[0]? = some t := ⟨_, List.getElem?_eq_getElem (show 0 < nms.length by omega)⟩
    simp [-gSeq, hpr]
    exact ⟨_, by simpa using ht, q t rows nms h' (rul_of hnms (by omega) (List.mem_of_getElem? ht) (by omega) ro) (f8.mono (by omega))⟩
end L73

namespace L73
open PySem L2 G3
set_option exponentiation.threshold 4000
/-! ### the law's stack, as it is reckoned -/
def duD : Du → Dv
  | .knot h => .tup [.str "knot", optS h]
  | .rule h => .tup [.str "rule", optS h]
  | .wd true w => .tup [.str "end", .str w]
  | .wd false w => .tup [.str "sign", .str w]
def dueD : Option Nat → Dv
  | none => .non
  | some k => .int k
theorem drun_app (G : List (Row × Nat)) : ∀ (ws us : List Str) (D : List Du) (i : Nat), drun G D i (ws ++ us) = (match drun G D i ws with
  | .error k => .error k
  | .ok D' => drun G D' (i + ws.length) us)
  | [], us, D, i => rfl
  | w :: ws, us, D, i => by
    have e1 : ∀ xs, drun G D i (w :: xs) = (match dstep G D w with | none => .error i | some D' => drun G D' (i + 1) xs) := fun _ => rfl
    rw [List.cons_append, e1, e1]
    cases dstep G D w with
    | none => rfl
    | some D' =>
      simp only
      rw [drun_app G ws us D' (i + 1), List.length_cons, show i + 1 + ws.length = i + (ws.length + 1) by omega]
theorem due_stop {G : List (Row × Nat)} {ws : List Str} {i : Nat} {w : Str} {D : List Du} (h : drun G [.knot none] 0 (ws.take i) = .ok D) (hw : ws[i]? = some w) (e : dstep G D w = none) : dueN G ws = some i := by
  have hi : i < ws.length := (List.getElem?_eq_some_iff.mp hw).1
  have es : ws = ws.take i ++ w :: ws.drop (i + 1) := by
    have : w = ws[i] := (List.getElem?_eq_some_iff.mp hw).2.symm
    rw [this, List.getElem_cons_drop, List.take_append_drop]
  have : drun G [.knot none] 0 ws = .error i := by
    rw [es, drun_app, h]
    simp only [List.length_take, Nat.zero_add]
    unfold drun
    rw [e]
    simp only
    rw [Nat.min_eq_left (by omega)]
  unfold dueN
  rw [this]
theorem due_go {G : List (Row × Nat)} {ws : List Str} {i : Nat} {w : Str} {D D' : List Du} (h : drun G [.knot none] 0 (ws.take i) = .ok D) (hw : ws[i]? = some w) (e : dstep G D w = some D') : drun G [.knot none] 0 (ws.take (i + 1)) = .ok D' := by
  have et : ws.take (i + 1) = ws.take i ++ [w] := by rw [List.take_add_one, hw]; rfl
  rw [et, drun_app, h]
  simp only
  unfold drun
  rw [e]
  rfl
theorem due_end {G : List (Row × Nat)} {ws : List Str} {D : List Du} (h : drun G [.knot none] 0 ws = .ok D) : dueN G ws = if D = [] then none else some ws.length := by
  unfold dueN
  rw [h]
  cases D <;> simp

def isNum (w : Str) : Dv → Bool
  | .int k => decide (numS k.toNat = w)
  | _ => false
theorem nums_find (w : Str) : ∀ X : List (Row × Nat), ((X.map fun x => Dv.int (x.2 : Nat)).filterMap fun d => if isNum w d = true then some d else none) = (X.filter fun x => decide (numS x.2 = w)).map fun x => Dv.int (x.2 : Nat)
  | [] => rfl
  | x :: X => by
    have ih := nums_find w X
    rw [List.map_cons, List.filterMap_cons, List.filter_cons, ih]
    by_cases e : numS x.2 = w <;> simp [isNum, e]
end L73

namespace L73
open PySem L2 G3
set_option exponentiation.threshold 4000
/-- words: at most n, of at most L signs each -/
def Ws (n L : Nat) (d : Dv) : Prop := ∃ ws : List Str, d = .lst (ws.map Dv.str) ∧ ws.length ≤ n ∧ ∀ w ∈ ws, w.length ≤ L
/-- a word of at most L signs -/
def Wo (L : Nat) (d : Dv) : Prop := ∃ w : Str, d = .str w ∧ w.length ≤ L
theorem ws_of {n L : Nat} : ∀ {ds : List Dv}, ds.length ≤ n → (∀ d ∈ ds, Wo L d) → Ws n L (.lst ds)
  | ds, hl, h => by
    have : ∃ ws : List Str, ds = ws.map Dv.str ∧ ∀ w ∈ ws, w.length ≤ L := by
      clear hl
      induction ds with
      | nil => exact ⟨[], rfl, fun w hw => by cases hw⟩
      | cons d ds ih =>
        obtain ⟨w, rfl, hw⟩ := h d List.mem_cons_self
        obtain ⟨ws, rfl, hws⟩ := ih fun d hd => h d (List.mem_cons_of_mem _ hd)
        exact ⟨w :: ws, rfl, fun x hx => by
          rcases List.mem_cons.mp hx with rfl | hx
          · exact hw
          · exact hws x hx⟩
    obtain ⟨ws, rfl, hws⟩ := this
    exact ⟨ws, rfl, by simpa using hl, hws⟩
theorem wo_str {L : Nat} {w : Str} (h : w.length ≤ L) : Wo L (.str w) := ⟨w, rfl, h⟩
theorem wo_mono {L M : Nat} {d : Dv} (h : Wo L d) (l : L ≤ M) : Wo M d := let ⟨w, e, k⟩ := h; ⟨w, e, Nat.le_trans k l⟩
theorem wo_of {n L : Nat} {d : Dv} (w : Ws n L d) : ∃ ds, d = .lst ds ∧ ds.length ≤ n ∧ ∀ d ∈ ds, Wo L d := by
  obtain ⟨ws, rfl, hl, hw⟩ := w
  exact ⟨_, rfl, by simpa using hl, fun d hd => by
    obtain ⟨y, hy, rfl⟩ := List.mem_map.mp hd
    exact wo_str (hw y hy)⟩

/-! ### how long words are, all together -/
def jl (ws : List Str) : Nat := (ws.map fun w => w.length + 1).sum
def jd : Dv → Nat
  | .str w => w.length + 1
  | _ => 0
def jlD (ds : List Dv) : Nat := (ds.map jd).sum
theorem jlD_strs (ws : List Str) : jlD (ws.map Dv.str) = jl ws := by unfold jlD jl; rw [List.map_map]; rfl
theorem jl_cons (w : Str) (ws : List Str) : jl (w :: ws) = w.length + 1 + jl ws := by simp [jl]
theorem jl_app (a b : List Str) : jl (a ++ b) = jl a + jl b := by simp [jl]
theorem jlD_app (a b : List Dv) : jlD (a ++ b) = jlD a + jlD b := by simp [jlD]
theorem jlD_cons (a : Dv) (b : List Dv) : jlD (a :: b) = jd a + jlD b := by simp [jlD]
theorem jlD_nil : jlD [] = 0 := rfl
theorem jl_len (ws : List Str) : ws.length ≤ jl ws := by
  induction ws with
  | nil => exact Nat.zero_le _
  | cons w ws ih => rw [jl_cons, List.length_cons]; omega
theorem jlD_split (k : Nat) (ds : List Dv) : jlD (ds.take k) + jlD (ds.drop k) = jlD ds := by rw [← jlD_app, List.take_append_drop]
theorem jlD_le {L : Nat} {ds : List Dv} (h : ∀ d ∈ ds, Wo L d) : jlD ds ≤ ds.length * (L + 1) := by
  induction ds with
  | nil => exact Nat.zero_le _
  | cons d ds ih =>
    obtain ⟨w, rfl, hw⟩ := h d List.mem_cons_self
    have := ih fun d hd => h d (List.mem_cons_of_mem _ hd)
    rw [jlD_cons, List.length_cons, Nat.succ_mul]
    simp only [jd]
    omega
theorem join_len : ∀ (w : Str) (ws : List Str), (Str.join " " (w :: ws)).length + 1 = jl (w :: ws)
  | w, [] => by simp [Str.join, jl]
  | w, y :: ws => by
    have ih := join_len y ws
    show (w ++ " " ++ Str.join " " (y :: ws)).length + 1 = _
    rw [str_len_append, str_len_append, jl_cons, ← ih]
    have : (" " : Str).length = 1 := rfl
    omega
theorem tjoin_len {ws : List Str} (h : ws ≠ []) : (Txt.join (Str.ofString " ") ws).length + 1 = jl ws := by
  cases ws with
  | nil => exact absurd rfl h
  | cons w ws =>
    rw [TL.join_eq]
    exact join_len w ws
theorem tjoin_le (ws : List Str) : (Txt.join (Str.ofString " ") ws).length ≤ jl ws := by
  cases ws with
  | nil => rw [TL.join_eq]; exact Nat.zero_le _
  | cons w ws =>
    have := tjoin_len (ws := w :: ws) (by simp)
    omega
theorem split_len (z : Str) (h : Txt.split z (Str.ofString " ") ≠ []) : jl (Txt.split z (Str.ofString " ")) = z.length + 1 := by
  rw [← tjoin_len h, TL.join_eq]
  have : Str.join (Str.ofString " ") (Txt.split z (Str.ofString " ")) = z := StrLaws.join_split z _
  rw [this]
/-- a depth that the words allow -/
theorem TW.low {ks : List Dv} {ws : List Str} {d : Nat} (h : TW ks ws d) : ∃ d', TW ks ws d' ∧ 6 * d' ≤ jl ws := by
  induction h with
  | nil d => exact ⟨0, .nil 0, Nat.zero_le _⟩
  | sg w _ ih =>
    obtain ⟨d', t, l⟩ := ih
    exact ⟨d', .sg w t, by rw [jl_cons]; omega⟩
  | nd n hn _ _ ih1 ih2 =>
    obtain ⟨d1, t1, l1⟩ := ih1
    obtain ⟨d2, t2, l2⟩ := ih2
    have l3 : 1 ≤ (numS n).length := (by decide +kernel : ∀ n < 16, 1 ≤ (numS n).length) n hn
    have a1 : ("[" : Str).length = 1 := rfl
    have a2 : ("]" : Str).length = 1 := rfl
    refine ⟨max d1 (d2 - 1) + 1, .nd n hn (t1.mono _ (Nat.le_max_left _ _)) (t2.mono _ (by omega)), ?_⟩
    rw [jl_cons, jl_cons, jl_app, jl_cons]
    omega
theorem cutD_two {xs : List Dv} {j k : Int} (hj : 0 ≤ j) (hk : 0 ≤ k) : (cutD xs (some j) (some k)).length ≤ (k - j).toNat := by
  unfold cutD HT.sIx
  have h1 : ¬ j < 0 := by omega
  have h2 : ¬ k < 0 := by omega
  simp only [h1, h2, if_false, List.length_take, List.length_drop]
  omega

theorem cutS_two (w : Str) {r : Int} (h : 0 ≤ r) : (cutS w none (some r)).length + (cutS w (some r) none).length = w.length := by
  have h1 : ¬ r < 0 := by omega
  rw [str_len, str_len, str_len]
  unfold cutS HT.sIx
  simp only [h1, if_false, List.length_take, List.length_drop]
  rw [str_len]
  omega
theorem asmeared_sp {a : Addr} {n L : Nat} {d : Dv} {h : Mh} {Q : Kd} (f : Feed h a n) (hn : n + 100 < 2 ^ 50) (hL : L ≤ 10000) (w : Wo L d) (q : ∀ d' h', Wo (L + 1) d' ∧ jd d' ≤ jd d + 1 → Feed h' a (n + 2) → Off a h h' → Q d' h') : sp_l_asmeared [.ref a, d] h Q := by
  obtain ⟨w, rfl, hw⟩ := w
  refine ⟨rfl, ?_⟩
  refine seq_step ?_
  simp [-gSeq, -wFor, -wLc]
  refine ⟨by omega, adraw_sp f (by omega) (by omega) (by omega) fun r h1 r0 r1 f1 o1 => ?_⟩
  refine ⟨r, rfl, by omega, adraw_sp f1 (by omega) (by decide) (by decide) fun s h2 s0 s1 f2 o2 => ?_⟩
  obtain ⟨x, hx, y, rfl, hy⟩ := atI_pick (xs := [Dv.str "\n", Dv.str "\t", Dv.str "\n", Dv.str "_", Dv.str "+", Dv.str "0"]) (Wo 1) s0 s1 (fun x hx => by
    simp only [List.mem_cons, List.not_mem_nil, or_false] at hx
    rcases hx with rfl | rfl | rfl | rfl | rfl | rfl <;> exact wo_str (by decide))
  have l1 := cutS_len w none (some r)
  have l2 := cutS_len w (some r) none
  have l3 := cutS_two w r0
  refine rIx_lst.mpr ⟨_, hx, ?_⟩
  simp
  refine ⟨by omega, by omega, ?_, q _ _ ⟨wo_str ?_, ?_⟩ f2 (o1.trans o2)⟩
  · rw [str_len_append]; omega
  · rw [str_len_append, str_len_append]; omega
  · simp only [jd]; rw [str_len_append, str_len_append]; omega
theorem aodd_sp {a : Addr} {n m L : Nat} {d : Dv} {h : Mh} {Q : Kd} (f : Feed h a n) (hn : n + 100 < 2 ^ 50) (hL : 40 ≤ L) (hm : m ≤ 5000) (w : Ws m L d) (q : ∀ d' h', Wo L d' → Feed h' a (n + 1) → Off a h h' → Q d' h') : sp_l_aodd [.ref a, d] h Q := by
  obtain ⟨ws, rfl, hl, hw⟩ := w
  refine ⟨rfl, ?_⟩
  refine seq_step ?_
  simp [-gSeq, -wFor, -wLc]
  refine seq_step ?_
  simp [-gSeq, -wFor, -wLc]
  refine ⟨by decide +kernel, by decide, by decide +kernel, ?_⟩
  have base : ∀ w ∈ Txt.split ((Str.ofString "- . : | = [ ] 0 1 00 01 16 -1 S A a b + ( ab S1 s1 aB Abcdef Abcdefg abcdef abcdefg" : Str) ++ Str.ofString " ++ +a Z9 9Z z A_ a. +- () <> AB SA1 a-b ~ # +0 +1 -0 1_0") (Str.ofString " "), w.length ≤ 40 := by decide +kernel
  have blen : (Txt.split ((Str.ofString "- . : | = [ ] 0 1 00 01 16 -1 S A a b + ( ab S1 s1 aB Abcdef Abcdefg abcdef abcdefg" : Str) ++ Str.ofString " ++ +a Z9 9Z z A_ a. +- () <> AB SA1 a-b ~ # +0 +1 -0 1_0") (Str.ofString " ")).length ≤ 100 := by decide +kernel
  generalize Txt.split _ (Str.ofString " ") = bs at base blen ⊢
  refine seq_step ?_
  simp [-gSeq, -wFor, -wLc]
  refine ⟨by decide, by decide, by omega, by omega, ?_⟩
  refine adraw_sp f (by omega) (by omega) (by omega) fun r h1 r0 r1 f1 o1 => ?_
  obtain ⟨x, hx, hm2⟩ := atI_pick (xs := bs.map Dv.str ++ .str (Str.ofString "") :: .str (Str.ofString "a\t") :: .str (Str.ofString "\n") :: .str (strRep (Str.ofString "9") 40) :: .str (Str.ofString "|=") :: .str (Str.ofString "S:") :: .str (Str.ofString "0\t") :: .str (Str.ofString "\n0") :: .str (Str.ofString "[\t") :: .str (Str.ofString ":\n") :: .str (Str.ofString "|\t") :: ws.map Dv.str) (Wo L) r0 (by simp; omega) (fun x hx => by
    rcases List.mem_append.mp hx with hx | hx
    · obtain ⟨y, hy, rfl⟩ := List.mem_map.mp hx
      exact wo_str (Nat.le_trans (base y hy) hL)
    · simp only [List.mem_cons] at hx
      rcases hx with rfl | rfl | rfl | rfl | rfl | rfl | rfl | rfl | rfl | rfl | rfl | hx
      · exact wo_str (Nat.le_trans (by decide : _ ≤ 40) hL)
      · exact wo_str (Nat.le_trans (by decide : _ ≤ 40) hL)
      · exact wo_str (Nat.le_trans (by decide : _ ≤ 40) hL)
      · refine wo_str (Nat.le_trans (?_ : _ ≤ 40) hL)
        rw [strRep_len]
        decide
      · exact wo_str (Nat.le_trans (by decide : _ ≤ 40) hL)
      · exact wo_str (Nat.le_trans (by decide : _ ≤ 40) hL)
      · exact wo_str (Nat.le_trans (by decide : _ ≤ 40) hL)
      · exact wo_str (Nat.le_trans (by decide : _ ≤ 40) hL)
      · exact wo_str (Nat.le_trans (by decide : _ ≤ 40) hL)
      · exact wo_str (Nat.le_trans (by decide : _ ≤ 40) hL)
      · exact wo_str (Nat.le_trans (by decide : _ ≤ 40) hL)
      · obtain ⟨y, hy, rfl⟩ := List.mem_map.mp hx
        exact wo_str (hw y hy))
  exact rIx_lst.mpr ⟨_, hx, q _ _ hm2 f1 o1⟩

/-- words of at most J signs and ends, of at most L signs each -/
def Wq (J L : Nat) (d : Dv) : Prop := ∃ ws : List Str, d = .lst (ws.map Dv.str) ∧ jl ws ≤ J ∧ ∀ w ∈ ws, w.length ≤ L
theorem wq_of {J L : Nat} {ds : List Dv} (hj : jlD ds ≤ J) (h : ∀ d ∈ ds, Wo L d) : Wq J L (.lst ds) := by
  obtain ⟨ws, e, _, hw⟩ := ws_of (Nat.le_refl ds.length) h
  cases e
  exact ⟨ws, rfl, by rw [← jlD_strs]; exact hj, hw⟩
theorem jlD_cut (ds : List Dv) (lo hi : Option Int) : jlD (cutD ds lo hi) ≤ jlD ds := by
  unfold cutD
  have key : ∀ a b : Nat, jlD ((ds.drop b).take a) ≤ jlD ds := fun a b => by
    have h1 := jlD_split b ds
    have h2 := jlD_split a (ds.drop b)
    omega
  exact key _ _
theorem jlD_two (ds : List Dv) {k : Int} (h : 0 ≤ k) : jlD (cutD ds none (some k)) + jlD (cutD ds (some k) none) = jlD ds := by
  rw [cutD_to h, cutD_from h]
  exact jlD_split _ _
theorem jlD_next (ds : List Dv) {k : Int} (h : 0 ≤ k) : jlD (cutD ds (some (k + 1)) none) ≤ jlD (cutD ds (some k) none) := by
  rw [cutD_from h, cutD_from (by omega)]
  have e : ds.drop (k + 1).toNat = (ds.drop k.toNat).drop 1 := by rw [List.drop_drop]; congr 1; omega
  rw [e]
  have := jlD_split 1 (ds.drop k.toNat)
  omega
theorem jlD_one (ds : List Dv) {k : Int} (h : 0 ≤ k) : jlD (cutD ds none (some k)) + jlD (cutD ds (some k) (some (k + 1))) + jlD (cutD ds (some (k + 1)) none) = jlD ds := by
  have e1 := jlD_two ds h
  have e2 : jlD (cutD ds (some k) (some (k + 1))) + jlD (cutD ds (some (k + 1)) none) = jlD (cutD ds (some k) none) := by
    rw [cutD_from h, cutD_from (show (0 : Int) ≤ k + 1 by omega)]
    have e3 : ds.drop (k + 1).toNat = (ds.drop k.toNat).drop 1 := by rw [List.drop_drop]; congr 1; omega
    have e4 : cutD ds (some k) (some (k + 1)) = (ds.drop k.toNat).take 1 := by
      unfold cutD HT.sIx
      have h1 : ¬ k < 0 := by omega
      have h2 : ¬ k + 1 < 0 := by omega
      simp only [h1, h2, if_false]
      by_cases c : k.toNat < ds.length
      · have e5 : min k.toNat ds.length = k.toNat := by omega
        have e6 : min (k + 1).toNat ds.length - k.toNat = 1 := by omega
        rw [e5, e6]
      · have e5 : min k.toNat ds.length = ds.length := by omega
        rw [e5, List.drop_length, List.drop_eq_nil_of_le (by omega : ds.length ≤ k.toNat)]
        simp
    rw [e3, e4]
    exact jlD_split 1 _
  omega

theorem abent_sp {a : Addr} {n J L : Nat} {d : Dv} {h : Mh} {Q : Kd} (f : Feed h a n) (hn : n + 400 < 2 ^ 50) (hL : 40 ≤ L) (hL2 : L ≤ 5000) (hm : J ≤ 3000) (w : Wq J L d) (q : ∀ d' h', Wq (J + 3 * (L + 1)) (L + 1) d' → Feed h' a (n + 300) → Off a h h' → Q d' h') : sp_l_abent [.ref a, d] h Q := by
  obtain ⟨ws0, rfl, hj0, hw0⟩ := w
  have wl0 := jl_len ws0
  obtain ⟨ds, eds⟩ : ∃ ds, ws0.map Dv.str = ds := ⟨_, rfl⟩
  have hj : jlD ds ≤ J := by rw [← eds, jlD_strs]; exact hj0
  have hl : ds.length ≤ 3000 := by rw [← eds, List.length_map]; omega
  have hw : ∀ d ∈ ds, Wo L d := fun d hd => by
    rw [← eds] at hd
    obtain ⟨y, hy, rfl⟩ := List.mem_map.mp hd
    exact wo_str (hw0 y hy)
  have wsD : Ws 3000 L (.lst ds) := ⟨ws0, by rw [eds], by omega, hw0⟩
  rw [eds]
  clear eds
  refine ⟨rfl, ?_⟩
  refine seq_step ?_
  simp [-gSeq, -wFor, -wLc]
  refine adraw_sp f (by omega) (by omega) (by omega) fun r h1 r0 r1 f1 o1 => ?_
  refine seq_step ?_
  simp [-gSeq, -wFor, -wLc]
  refine adraw_sp f1 (by omega) (by decide) (by decide) fun s h2 s0 s1 f2 o2 => ?_
  have C : ∀ lo hi, ∀ d ∈ cutD ds lo hi, Wo (L + 1) d := fun lo hi d hd => wo_mono (hw d (cutD_mem hd)) (by omega)
  have Cl : ∀ lo hi, (cutD ds lo hi).length ≤ 3000 := fun lo hi => Nat.le_trans (cutD_len ds lo hi) hl
  have Cj := jlD_cut ds
  have J2 := jlD_two ds r0
  have J1 := jlD_next ds r0
  have fin1 : ∀ (x : Dv) (h' : Mh) (lo hi lo2 hi2 : Option Int), jlD (cutD ds lo hi) + jlD (cutD ds lo2 hi2) ≤ J → Wo L x → Feed h' a (n + 300) → Off a h h' → Q (.lst (cutD ds lo hi ++ x :: cutD ds lo2 hi2)) h' := fun x h' lo hi lo2 hi2 hs wx f' o' => by
    have wx1 : jd x ≤ L + 1 := by
      obtain ⟨y, rfl, hy⟩ := wx
      simp only [jd]
      omega
    refine q _ _ (wq_of ?_ fun d hd => ?_) f' o'
    · rw [jlD_app, jlD_cons]
      omega
    · rcases List.mem_append.mp hd with hd | hd
      · exact C _ _ d hd
      · rcases List.mem_cons.mp hd with rfl | hd
        · exact wo_mono wx (by omega)
        · exact C _ _ d hd
  have fin2 : ∀ (h' : Mh) (l1 l2 l3 : List Dv), jlD l1 + (jlD l2 + jlD l3) ≤ J + 3 * (L + 1) → (∀ d ∈ l1, Wo (L + 1) d) → (∀ d ∈ l2, Wo (L + 1) d) → (∀ d ∈ l3, Wo (L + 1) d) → Feed h' a (n + 300) → Off a h h' → Q (.lst (l1 ++ (l2 ++ l3))) h' := fun h' l1 l2 l3 hs w1 w2 w3 f' o' => by
    refine q _ _ (wq_of ?_ fun d hd => ?_) f' o'
    · rw [jlD_app, jlD_app]
      exact hs
    · rcases List.mem_append.mp hd with hd | hd
      · exact w1 d hd
      · rcases List.mem_append.mp hd with hd | hd
        · exact w2 d hd
        · exact w3 d hd
  refine seq_step ?_
  simp [-gSeq, -wFor, -wLc]
  by_cases c1 : s < 2
  · refine .inr ⟨by omega, ?_⟩
    refine aodd_sp f2 (by omega) hL (by omega) wsD fun x h3 wx f3 o3 => ?_
    have a1 := Cl none (some r)
    have a2 := Cl (some (r + 1)) none
    exact ⟨by omega, by omega, fin1 _ _ _ _ _ _ (by omega) wx (f3.mono (by omega)) ((o1.trans o2).trans o3)⟩
  refine .inl ⟨by omega, ?_⟩
  refine seq_step ?_
  simp [-gSeq, -wFor, -wLc]
  by_cases c2 : s = 2
  · subst c2
    simp [-gSeq, -wFor, -wLc]
    have a1 := Cl none (some r)
    have a2 := Cl (some (r + 1)) none
    refine ⟨by omega, q _ _ (wq_of ?_ fun d hd => ?_) (f2.mono (by omega)) (o1.trans o2)⟩
    · rw [jlD_app]; omega
    · rcases List.mem_append.mp hd with hd | hd <;> exact C _ _ d hd
  simp [-gSeq, -wFor, -wLc, c2]
  refine seq_step ?_
  simp [-gSeq, -wFor, -wLc]
  by_cases c5 : s < 5
  · refine .inr ⟨by omega, ?_⟩
    refine aodd_sp f2 (by omega) hL (by omega) wsD fun x h3 wx f3 o3 => ?_
    have a1 := Cl none (some r)
    have a2 := Cl (some r) none
    exact ⟨by omega, by omega, fin1 _ _ _ _ _ _ (by omega) wx (f3.mono (by omega)) ((o1.trans o2).trans o3)⟩
  refine .inl ⟨by omega, ?_⟩
  refine seq_step ?_
  simp [-gSeq, -wFor, -wLc]
  by_cases c6 : s = 5
  · subst c6
    simp [-gSeq, -wFor, -wLc]
    refine seq_step ?_
    simp [-gSeq, -wFor, -wLc]
    refine adraw_sp f2 (by omega) (by omega) (by omega) fun t h3 t0 t1 f3 o3 => ?_
    have a1 := Cl none (some r)
    have a2 := cutD_two (xs := ds) t0 (show (0 : Int) ≤ t + 3 by omega)
    rw [show (t + 3 - t).toNat = 3 by omega] at a2
    have a3 := Cl (some r) none
    have a4 := jlD_le (L := L) (ds := cutD ds (some t) (some (t + 3))) fun d hd => hw d (cutD_mem hd)
    have a5 : (cutD ds (some t) (some (t + 3))).length * (L + 1) ≤ 3 * (L + 1) := Nat.mul_le_mul_right _ a2
    exact ⟨t, rfl, t + 3, rfl, by omega, by omega, fin2 _ _ _ _ (by omega) (C _ _) (C _ _) (C _ _) (f3.mono (by omega)) ((o1.trans o2).trans o3)⟩
  simp [-gSeq, -wFor, -wLc, c6]
  refine seq_step ?_
  simp [-gSeq, -wFor, -wLc]
  by_cases c7 : s = 6
  · subst c7
    simp [-gSeq, -wFor, -wLc]
    have a1 := Cj none (some (if 1 < r then r else 1))
    exact q _ _ (wq_of (by omega) fun d hd => C _ _ d hd) (f2.mono (by omega)) (o1.trans o2)
  simp [-gSeq, -wFor, -wLc, c7]
  refine seq_step ?_
  simp [-gSeq, -wFor, -wLc]
  obtain ⟨x, hx, k, rfl, k0⟩ := atI_pick (xs := [Dv.int (if 1 < r then r - 1 else 0), Dv.int (if 1 < (ds.length : Int) then (ds.length : Int) - 1 else 0)]) (i := s - 7) (fun x => ∃ k : Int, x = .int k ∧ 0 ≤ k) (by omega) (by simp; omega) (fun x hx => by
    simp only [List.mem_cons, List.not_mem_nil, or_false] at hx
    rcases hx with rfl | rfl <;> exact ⟨_, rfl, by split <;> omega⟩)
  refine ⟨_, hx, k, rfl, k, rfl, k + 1, rfl, ?_⟩
  have a1 := Cl none (some k)
  have a2 := cutD_two (xs := ds) k0 (show (0 : Int) ≤ k + 1 by omega)
  rw [show (k + 1 - k).toNat = 1 by omega] at a2
  have a3 := Cl (some (k + 1)) none
  have a4 := jlD_one ds k0
  have hw2 : ∀ d ∈ cutD ds (some k) (some (k + 1)), Wo L d := fun d hd => hw d (cutD_mem hd)
  generalize cutD ds (some k) (some (k + 1)) = mid at a2 a4 hw2 ⊢
  have hmid : ∀ h', Feed h' a (n + 300) → Off a h h' → ∀ zs : List Dv, zs.length = mid.length → jlD zs ≤ jlD mid + 1 → (∀ d ∈ zs, Wo (L + 1) d) → Q (.lst (cutD ds none (some k) ++ (zs ++ cutD ds (some (k + 1)) none))) h' := fun h' f' o' zs _ zj zw => fin2 _ _ _ _ (by omega) (C _ _) zw (C _ _) f' o'
  match mid, a2, hw2, hmid with
  | [], _, _, hmid =>
    simp
    have a5 := Cl none (some k)
    exact ⟨by omega, by omega, by simpa using hmid _ (f2.mono (by omega)) (o1.trans o2) [] rfl (by simp [jlD]) (fun d hd => by cases hd)⟩
  | [y], _, hw2, hmid =>
    simp
    refine asmeared_sp f2 (by omega) (by omega) (hw2 y List.mem_cons_self) fun d' h4 ⟨wd, jd'⟩ f4 o4 => ?_
    have := hmid _ (f4.mono (by omega)) ((o1.trans o2).trans o4) [d'] rfl (by rw [jlD_cons, jlD_cons]; simp [jlD]; omega) (fun d hd => by rw [List.mem_singleton.mp hd]; exact wd)
    exact ⟨by omega, by omega, by simpa using this⟩
  | _ :: _ :: _, a2, _, _ => simp only [List.length_cons] at a2; omega
end L73

namespace L73
open PySem L2 G3
set_option exponentiation.threshold 4000
theorem log_16 {k : Nat} (hk : k < 16) : k.log2 < 1920 := by
  by_cases z : k = 0
  · rw [z]; decide
  · exact (Nat.log2_lt z).mpr (Nat.lt_of_lt_of_le hk (Nat.le_trans (by decide : 16 ≤ 2 ^ 4) (Nat.pow_le_pow_right (by decide) (by decide))))
theorem duD_item (w : Str) : duD (item w) = .tup [.str (if isName (.str w) = true then "knot" else "sign"), .str w] := by
  unfold item
  split <;> rfl
theorem duD_dats : ∀ l : List Du, dats (l.map duD) = true ∧ deps (l.map duD) ≤ 1
  | [] => ⟨rfl, Nat.zero_le _⟩
  | d :: l => by
    obtain ⟨a, b⟩ := duD_dats l
    have : dat (duD d) = true ∧ dep (duD d) ≤ 1 := by
      rcases d with (_ | h) | (_ | h) | ⟨_ | _, w⟩ <;> exact ⟨rfl, Nat.le_refl _⟩
    rw [List.map_cons]
    refine ⟨by simp only [dats, a, this.1, Bool.and_self], ?_⟩
    simp only [deps]
    have := this.2
    omega
theorem deqs_ne {xs : List Dv} (h : xs ≠ []) : deqs xs [] = false := by
  cases xs with
  | nil => exact absurd rfl h
  | cons x xs => rfl
theorem goodN_dat : ∀ X : List (Row × Nat), dats (X.map fun x => Dv.int (x.2 : Nat)) = true ∧ deps (X.map fun x => Dv.int (x.2 : Nat)) = 0
  | [] => ⟨rfl, rfl⟩
  | x :: X => by
    obtain ⟨a, b⟩ := goodN_dat X
    rw [List.map_cons]
    exact ⟨by simp only [dats, dat, a, Bool.and_self], by simp only [deps, dep, b]; rfl⟩
theorem adue_sp {t : Str} {nms A : List Str} {rs : List Row} (U : Rul nms A t rs) {F : List Str} {dh : Addr} {h : Mh} {Q : Kd} (H : Hts h dh F) {ws : List Str} (wl : ws.length ≤ 100000) (q : ∀ h', Kpa h h' → Q (dueD (dueN (goodL F rs) ws)) h') : sp_l_adue [rulesD t rs, .ref dh, .lst (ws.map Dv.str)] h Q := by
  have hl := U.l
  refine ⟨rfl, ?_⟩
  refine seq_step ?_
  simp [-gSeq, -wFor, -wLc]
  intro p hp
  refine seq_step ?_
  simp [-gSeq, -wFor, -wLc]
  refine ⟨by omega, ?_⟩
  refine wFor_inv _ (fun i ρ' h' => ∃ (a4 a5 a6 a7 a8 a9 : Option Dv) (D : List Du), ρ' = [some (rulesD t rs), some (.ref dh), some (.lst (ws.map Dv.str)), some (.ref p), a4, a5, a6, a7, a8, a9] ∧ h' p = some (.lst (D.reverse.map duD)) ∧ drun (goodL F rs) [.knot none] 0 (ws.take i) = .ok D ∧ D.length ≤ 1 + 5 * i ∧ Kpa h h') _ _ (fun i d ρ' h' N hI hd hN => ?_) ⟨none, none, none, none, none, none, [.knot none], rfl, mput_same, rfl, by simp, Kpa.new hp _ (Kpa.refl h)⟩ (fun ρ' h' hI => ?_)
  · obtain ⟨a4, a5, a6, a7, a8, a9, D, rfl, hpD, run, Dl, kp⟩ := hI
    obtain ⟨hi, rfl⟩ := rng_get hd
    obtain ⟨w, hw⟩ : ∃ w, ws[i]? = some w := ⟨_, List.getElem?_eq_getElem hi⟩
    have stop : dstep (goodL F rs) D w = none → ∀ h2, Kpa h h2 → Q (.int i) h2 := fun e h2 k => by
      have := q h2 k
      rw [due_stop run hw e] at this
      exact this
    have go : ∀ D' e5 e6 e7 e8 e9 h2, dstep (goodL F rs) D w = some D' → D'.length ≤ D.length + 4 → h2 p = some (.lst (D'.reverse.map duD)) → Kpa h h2 → N [some (rulesD t rs), some (.ref dh), some (.lst (ws.map Dv.str)), some (.ref p), some (.int i), e5, e6, e7, e8, e9] h2 := fun D' e5 e6 e7 e8 e9 h2 e l hp2 k => hN _ _ ⟨_, _, _, _, _, _, D', rfl, hp2, due_go run hw e, by omega, k⟩
    refine seq_step ?_
    simp [-gSeq, -wFor, -wLc, ggCons, hpD]
    obtain ⟨dd1, dd2⟩ := duD_dats D.reverse
    refine rEqR_ref hpD dd1 rfl (by omega) ?_
    cases D with
    | nil =>
      simp
      exact stop rfl h' kp
    | cons e D =>
      rw [deqs_ne (by simp)]
      refine .inl ⟨rfl, ?_⟩
      refine seq_step ?_
      have er : (e :: D).reverse.map duD = D.reverse.map duD ++ [duD e] := by simp
      rw [er] at hpD
      have kd : Kpa h (mput h' p (.lst (D.reverse.map duD))) := Kpa.new hp _ kp
      have hp2 : (mput h' p (.lst (D.reverse.map duD))) p = some (.lst (D.reverse.map duD)) := mput_same
      simp [-gSeq, -wFor, -wLc, ggCons, hpD]
      refine ⟨p, _, duD e, rfl, rfl, hpD, by simp, ?_⟩
      rw [List.dropLast_concat]
      rw [List.length_cons] at Dl go
      generalize (mput h' p (.lst (D.reverse.map duD))) = h2 at kd hp2 ⊢
      have app : ∀ {h3 : Mh} {x : Du}, Kpa h h3 → h3 p = some (.lst (D.reverse.map duD)) → Kpa h (mput h3 p (.lst (D.reverse.map duD ++ [duD x]))) ∧ (mput h3 p (.lst (D.reverse.map duD ++ [duD x]))) p = some (.lst ((x :: D).reverse.map duD)) := fun k e => ⟨Kpa.new hp _ k, by rw [mput_same]; simp⟩
      match e with
      | .knot hd =>
        simp [duD, -gSeq, -wFor, -wLc, ggCons]
        refine ⟨_, _, ⟨rfl, rfl⟩, _, _, rfl, rfl, ⟨rfl, by decide⟩, iteT rfl ?_⟩
        refine seq_step ?_
        simp [-gSeq, -wFor, -wLc, hw]
        refine ⟨.str w, ⟨w, by rw [G3.atI_nat, hw], rfl⟩, ⟨rfl, Nat.zero_le _⟩, ?_⟩
        by_cases c : w = "["
        · refine .inl ⟨by rw [c]; rfl, agood_sp U hd (H.kpa kd) fun h3 k3 => ?_⟩
          obtain ⟨gd1, gd2⟩ := goodN_dat (good (goodL F rs) hd)
          refine ⟨⟨gd1, by show deps _ + 1 ≤ 60; unfold goodN; rw [gd2]; omega⟩, ?_⟩
          by_cases g : good (goodL F rs) hd = []
          · refine iteT (by unfold goodN; rw [g]; rfl) (stop ?_ h3 (kd.trans k3))
            simp [dstep, g]
          · refine iteF (by unfold goodN; cases hg : good (goodL F rs) hd with
              | nil => exact absurd hg g
              | cons x X => simp [deqs]) ?_
            have hp3 := k3 _ _ hp2
            refine ⟨⟨_, hp3⟩, _, hp3, by rw [List.length_map, List.length_reverse]; omega, ?_⟩
            obtain ⟨z1, z2⟩ := app (x := .rule hd) (kd.trans k3) hp3
            exact go _ _ _ _ _ _ _ (by simp only [dstep]; rw [if_pos ⟨c, g⟩]) (by simp) z2 z1
        · refine .inr ⟨?_, stop (by simp only [dstep]; rw [if_neg fun z => c z.1]) _ kd⟩
          have : ¬ w = Str.ofString "[" := c
          simp [this]
      | .rule hd =>
        simp [duD, -gSeq, -wFor, -wLc, ggCons]
        refine ⟨_, _, ⟨rfl, rfl⟩, _, _, rfl, rfl, ⟨rfl, by decide⟩, iteF (by decide) ⟨⟨rfl, by decide⟩, iteT rfl ?_⟩⟩
        refine seq_step ?_
        simp [-gSeq, -wFor, -wLc, hw]
        refine agood_sp U hd (H.kpa kd) fun h3 k3 => ?_
        simp [-gSeq, -wFor, -wLc, hw]
        have lt16 : ∀ x ∈ good (goodL F rs) hd, x.2 < 16 := fun x hx => Nat.lt_of_lt_of_le (goodL_ix (List.mem_filter.mp hx).1).2 hl
        have gl : (good (goodL F rs) hd).length ≤ 16 := Nat.le_trans (List.length_filter_le _ _) (Nat.le_trans (goodL_len F rs) hl)
        refine wLc_some (fun d => if isNum w d = true then some d else none) _ _ (fun d hd Q' R' z => ?_) (by unfold goodN; rw [List.length_map, List.length_nil, sizeLine_val]; omega) ?_
        · obtain ⟨x, hx, rfl⟩ := List.mem_map.mp hd
          simp [-gSeq, -wFor, -wLc, hw]
          refine ⟨log_16 (lt16 x hx), .str w, ⟨w, by rw [G3.atI_nat, hw], rfl⟩, ⟨rfl, Nat.zero_le _⟩, ?_⟩
          have en : isNum w (.int (x.2 : Nat)) = decide (numS x.2 = w) := rfl
          rw [en] at z
          by_cases c : numS x.2 = w
          · rw [decide_eq_true c, if_pos rfl] at z
            refine iteT ?_ z
            have e3 : Str.ofString (Int.repr (x.2 : Nat)) = w := c
            simp [e3]
          · rw [decide_eq_false c, if_neg (by simp)] at z
            refine iteF (fun e => c ?_) z
            have e3 : Str.ofString (Int.repr (x.2 : Nat)) = w := by simpa using e
            exact e3
        · rw [List.nil_append]
          unfold goodN
          rw [nums_find]
          have fg : findG (good (goodL F rs) hd) w = ((good (goodL F rs) hd).filter fun x => decide (numS x.2 = w)).head? := by
            unfold findG; rw [List.head?_filter]
          have fm : ∀ x ∈ (good (goodL F rs) hd).filter (fun x => decide (numS x.2 = w)), x ∈ goodL F rs := fun x hx => (List.mem_filter.mp (List.mem_filter.mp hx).1).1
          obtain ⟨gd1, gd2⟩ := goodN_dat ((good (goodL F rs) hd).filter fun x => decide (numS x.2 = w))
          generalize (good (goodL F rs) hd).filter (fun x => decide (numS x.2 = w)) = Y at fg fm gd1 gd2 ⊢
          refine seq_step ?_
          simp [-gSeq, -wFor, -wLc, gd1, gd2]
          cases Y with
          | nil =>
            simp
            refine stop ?_ h3 (kd.trans k3)
            simp only [dstep, fg]
            rfl
          | cons x Y =>
            simp [-gSeq, -wFor, -wLc]
            refine seq_step ?_
            have hp3 := k3 _ _ hp2
            simp [-gSeq, -wFor, -wLc, hp3]
            refine ⟨by omega, ?_⟩
            have hx := (goodL_ix (fm x List.mem_cons_self)).1
            have hm := List.mem_of_getElem? hx
            have b4 := U.R.bd _ hm
            have ow := U.W.bd _ hm
            rw [show rulesD t rs = .tup [.str t, .tup (rs.map rowD)] from rfl]
            refine rIx_tup.mpr ⟨_, rfl, rIx_tup.mpr ⟨rowD x.1, by rw [G3.atI_nat, List.getElem?_map, hx]; rfl, rIx_tup.mpr ⟨.tup (x.1.2.map Dv.str), rfl, ?_⟩⟩⟩
            obtain ⟨z1, z2⟩ := app (x := .wd true "]") (kd.trans k3) hp3
            have ez : (List.map duD D).reverse ++ [Dv.tup [Dv.str (Str.ofString "end"), Dv.str (Str.ofString "]")]] = D.reverse.map duD ++ [duD (.wd true "]")] := by rw [List.map_reverse]; rfl
            rw [ez]
            generalize (mput h3 p (.lst (D.reverse.map duD ++ [duD (.wd true "]")]))) = h4 at z1 z2 ⊢
            simp [-gSeq, -wFor, -wLc]
            refine wFor_inv _ (fun j ρ' h5 => ∃ a8, ρ' = [some (.tup [.str t, .tup (rs.map rowD)]), some (.ref dh), some (.lst (ws.map Dv.str)), some (.ref p), some (.int i), some (.str "rule"), some (optS hd), some (.lst (Dv.int x.2 :: Y.map fun x => Dv.int (x.2 : Nat))), a8, a9] ∧ h5 p = some (.lst (((x.1.2.reverse.take j).reverse.map item ++ .wd true "]" :: D).reverse.map duD)) ∧ Kpa h h5) _ _ (fun j d ρ' h5 N2 hI hd2 hN2 => ?_) ⟨a8, rfl, z2, z1⟩ (fun ρ' h5 hI => ?_)
            · obtain ⟨a8, rfl, hp5, k5⟩ := hI
              rw [← List.map_reverse, List.getElem?_map] at hd2
              obtain ⟨u, hu, rfl⟩ := Option.map_eq_some_iff.mp hd2
              have hum : u ∈ x.1.2 := List.mem_reverse.mp (List.mem_of_getElem? hu)
              have hj : j < x.1.2.length := by have := (List.getElem?_eq_some_iff.mp hu).1; rwa [List.length_reverse] at this
              have et : x.1.2.reverse.take (j + 1) = x.1.2.reverse.take j ++ [u] := by rw [List.take_add_one, hu]; rfl
              have es : ((x.1.2.reverse.take (j + 1)).reverse.map item ++ .wd true "]" :: D).reverse.map duD = ((x.1.2.reverse.take j).reverse.map item ++ .wd true "]" :: D).reverse.map duD ++ [duD (item u)] := by
                rw [et]; simp
              have sl : ((x.1.2.reverse.take j).reverse.map item ++ Du.wd true "]" :: D).length ≤ D.length + 5 := by
                rw [List.length_append, List.length_map, List.length_reverse, List.length_take, List.length_reverse, List.length_cons]; omega
              generalize (x.1.2.reverse.take j).reverse.map item ++ Du.wd true "]" :: D = S at hp5 es sl ⊢
              simp [-gSeq, -wFor, -wLc, hp5]
              refine ais_any_name_sp (ow u hum).sz ?_
              have fin := hN2 _ (mput h5 p (.lst (S.reverse.map duD ++ [duD (item u)]))) ⟨some (.str u), rfl, by rw [mput_same, es], Kpa.new hp _ k5⟩
              rw [duD_item] at fin
              cases hn : isName (.str u)
              · rw [hn] at fin
                exact .inl ⟨rfl, _, hp5, by rw [List.length_map, List.length_reverse]; omega, by simpa using fin⟩
              · rw [hn] at fin
                exact .inr ⟨rfl, _, hp5, by rw [List.length_map, List.length_reverse]; omega, by simpa using fin⟩
            · obtain ⟨a8, rfl, hp5, k5⟩ := hI
              have e1 : (List.map Dv.str x.1.2).reverse.length = x.1.2.reverse.length := by simp
              rw [e1, List.take_length, List.reverse_reverse] at hp5
              refine go _ _ _ _ _ _ _ (by simp only [dstep, fg]; rfl) ?_ hp5 k5
              simp; omega
      | .wd b u =>
        cases b <;> simp [duD, -gSeq, -wFor, -wLc, ggCons]
        all_goals
          refine ⟨_, _, ⟨rfl, rfl⟩, _, _, rfl, rfl, ⟨rfl, by decide⟩, iteF (by decide) ⟨⟨rfl, by decide⟩, iteF (by decide) ?_⟩⟩
          simp [-gSeq, -wFor, -wLc, hw]
          refine ⟨.str w, ⟨w, by rw [G3.atI_nat, hw], rfl⟩, ⟨rfl, Nat.zero_le _⟩, ?_⟩
          by_cases c : w = u
          · refine .inl ⟨by rw [c]; simp, go D _ _ _ _ _ _ (by simp only [dstep]; rw [if_pos c]) (by omega) hp2 kd⟩
          · refine .inr ⟨by simp [c], stop (by simp only [dstep]; rw [if_neg c]) _ kd⟩
  · obtain ⟨a4, a5, a6, a7, a8, a9, D, rfl, hpD, run, Dl, kp⟩ := hI
    rw [rng_len, List.take_length] at run
    have q2 := q h' kp
    rw [due_end run] at q2
    obtain ⟨dd1, dd2⟩ := duD_dats D.reverse
    dsimp only
    simp
    refine rEqR_ref hpD dd1 rfl (by omega) ?_
    cases D with
    | nil => simpa [dueD] using q2
    | cons e D =>
      rw [deqs_ne (by simp)]
      simpa [dueD] using q2
end L73

namespace L73
open PySem L2 G3
set_option exponentiation.threshold 4000
/-! ### how high a rule's least tree is -/
theorem nmH_eq (H : Str → Nat) (r : Row) : ((r.2.map Dv.str).filterMap fun d => if isNm (strD d) = true then some (Dv.int (H (strD d) : Nat)) else none) = ((nml r).map H).map fun x : Nat => Dv.int x := by
  unfold nml
  induction r.2 with
  | nil => rfl
  | cons w ws ih =>
    rw [List.map_cons, List.filterMap_cons, List.filter_cons, ih]
    have e : strD (.str w) = w := rfl
    rw [e]
    cases h : isNm w <;> simp
theorem ahigh_sp {t : Str} {nms A : List Str} {rs : List Row} (U : Rul nms A t rs) {f : List Str} {H : Str → Nat} {dh : Addr} {h : Mh} {Q : Kd} (hk : h dh = some (.dK (kvH f H))) {g : Nat} {r : Row} (hr : rs[g]? = some r) (hn : ∀ w ∈ nml r, w ∈ f) (q : Q (.int (hiR H r : Nat)) h) : sp_l_ahigh [rulesD t rs, .ref dh, .int g] h Q := by
  have hm := List.mem_of_getElem? hr
  have b4 := U.R.bd r hm
  have nl := nml_len b4
  refine ⟨rfl, ?_⟩
  rw [show rulesD t rs = .tup [.str t, .tup (rs.map rowD)] from rfl]
  simp [W_l_ahigh, -wLc, hr, rowD]
  refine ⟨_, ⟨r.1, r.2, by rw [G3.atI_nat, hr], rfl⟩, rIx_tup.mpr ⟨.tup (r.2.map Dv.str), rfl, _, rfl, ?_⟩⟩
  refine wLc_some (fun d => if isNm (strD d) = true then some (Dv.int (H (strD d) : Nat)) else none) _ _ (fun d hd Q' R' z => ?_) (by rw [List.length_map, List.length_nil, sizeLine_val]; omega) ?_
  · obtain ⟨w, hw, rfl⟩ := List.mem_map.mp hd
    have ow := U.W.bd r hm w hw
    simp [-gSeq, -wFor, -wLc]
    refine ais_name_sp ow.sz ?_
    rw [ow.nm]
    have es : strD (.str w) = w := rfl
    rw [es] at z
    cases hw2 : isName (.str w)
    · have hn3 : isNm w = false := hw2
      rw [if_neg (by rw [hn3]; simp)] at z
      exact .inl ⟨rfl, z⟩
    · have hn3 : isNm w = true := hw2
      rw [if_pos hn3] at z
      have kw : DGetD h (.ref dh) (.str w) (valD (kvH f H) (.inr w)) := DGetD.k (k := .inr w) (.inl hk)
      rw [val_H, if_pos (hn w (nml_mem.mpr ⟨hw, hn3⟩))] at kw
      exact .inr ⟨rfl, _, kw, z⟩
  · rw [List.nil_append, nmH_eq]
    have em : (((nml r).map H).map fun x : Nat => Dv.int x) ++ [Dv.int 0] = ((((nml r).map H).map fun x : Nat => (x : Int)) ++ [0]).map Dv.int := by
      simp [Function.comp_def]
    simp only [List.length_map]
    rw [em]
    refine ⟨by omega, .lst _, _, rfl, rfl, by simp, fun m hm1 hy => ?_⟩
    have hm2 := mx_of hm1 hy
    subst hm2
    refine rAdd_int.mpr ?_
    have e1 : (1 : Int) + ((mx ((nml r).map H) : Nat) : Int) = ((hiR H r : Nat) : Int) := by unfold hiR; omega
    rw [e1]
    exact q
/-! ### drawn trees -/
def Trs (n B : Nat) (ks : List Dv) : Prop := ∃ ws, TW ks ws n ∧ ws.length ≤ B ∧ ∀ w ∈ ws, w.length ≤ 6
theorem Trs.nil (n : Nat) : Trs n 0 [] := ⟨[], .nil n, Nat.le_refl _, fun w hw => by cases hw⟩
theorem Trs.snoc {n B C : Nat} {ks : List Dv} {k : Dv} (a : Trs n B ks) (b : Trs n C [k]) : Trs n (B + C) (ks ++ [k]) := by
  obtain ⟨ws, t, l, s⟩ := a
  obtain ⟨us, t2, l2, s2⟩ := b
  refine ⟨ws ++ us, t.app t2, by rw [List.length_append]; omega, fun w hw => ?_⟩
  rcases List.mem_append.mp hw with h | h
  · exact s w h
  · exact s2 w h
theorem Trs.sign {n : Nat} {w : Str} (h : w.length ≤ 6) : Trs n 1 [.str w] := ⟨[w], .sg w (.nil n), by simp, fun x hx => by rw [List.mem_singleton.mp hx]; exact h⟩
theorem Trs.node {n B i : Nat} {ks : List Dv} (a : Trs n B ks) (hi : i < 16) : Trs (n + 1) (B + 3) [.tup [.int i, .tup ks]] := by
  obtain ⟨ws, t, l, s⟩ := a
  refine ⟨_, .nd i hi t (.nil _), by simp; omega, fun w hw => ?_⟩
  have l3 : (numS i).length ≤ 6 := (by decide +kernel : ∀ n < 16, (numS n).length ≤ 6) i hi
  have a1 : ("[" : Str).length ≤ 6 := by decide
  have a2 : ("]" : Str).length ≤ 6 := by decide
  rcases List.mem_cons.mp hw with rfl | hw
  · exact a1
  rcases List.mem_cons.mp hw with rfl | hw
  · exact l3
  rcases List.mem_append.mp hw with hw | hw
  · exact s w hw
  · rw [List.mem_singleton.mp hw]; exact a2
theorem Trs.mono {n B C : Nat} {ks : List Dv} (a : Trs n B ks) (h : B ≤ C) : Trs n C ks := let ⟨ws, t, l, s⟩ := a; ⟨ws, t, Nat.le_trans l h, s⟩
def Bw : Nat → Nat
  | 0 => 1
  | m + 1 => if m < 6 then 7 + 4 * Bw m else 7 + Bw m
theorem Bw_up (m : Nat) : Bw m ≤ Bw (m + 1) := by
  rw [Bw]
  split <;> omega
theorem Bw_mono {m k : Nat} (h : m ≤ k) : Bw m ≤ Bw k := by
  induction k with
  | zero => rw [Nat.le_zero.mp h]; exact Nat.le_refl _
  | succ k ih =>
    rcases Nat.lt_or_ge m (k + 1) with l | l
    · exact Nat.le_trans (ih (by omega)) (Bw_up k)
    · rw [Nat.le_antisymm h l]; exact Nat.le_refl _
def Okm (H : Str → Nat) (nm : Str) (left : Int) (m : Nat) : Prop := (left ≤ 3 ∧ m ≤ 6 ∧ left ≤ m ∧ H nm ≤ m) ∨ (6 < m ∧ left = (m : Int) - 3)
def rowAt (rs : List Row) : Dv → Row
  | .int k => (rs[k.toNat]?).getD ((""  : Str), [])
  | _ => ("", [])
theorem filt_nm {rs : List Row} (P : Row → Bool) : ∀ X : List (Row × Nat), (∀ x ∈ X, rs[x.2]? = some x.1) → ((X.map fun x => Dv.int (x.2 : Nat)).filterMap fun d => if P (rowAt rs d) = true then some d else none) = (X.filter fun x => P x.1).map fun x => Dv.int (x.2 : Nat)
  | [], _ => rfl
  | x :: X, h => by
    rw [List.map_cons, List.filterMap_cons, List.filter_cons, filt_nm P X fun y hy => h y (List.mem_cons_of_mem _ hy)]
    have e : rowAt rs (.int (x.2 : Nat)) = x.1 := by
      show (rs[((x.2 : Nat) : Int).toNat]?).getD _ = _
      rw [Int.toNat_natCast, h x List.mem_cons_self]
      rfl
    rw [e]
    by_cases c : P x.1 = true <;> simp [c]
end L73

namespace L73
open PySem L2 G3
set_option exponentiation.threshold 4000
def slimB (r : Row) : Bool := decide ((nml r).length < 2)
def nmD (X : List (Row × Nat)) : List Dv := X.map fun x => Dv.int (x.2 : Nat)
theorem nmD_len (X : List (Row × Nat)) : (nmD X).length = X.length := by unfold nmD; rw [List.length_map]
theorem deqs_nmD (X : List (Row × Nat)) : deqs (nmD X) [] = decide (X = []) := by cases X <;> simp [nmD, deqs]
section
variable {t : Str} {nms A : List Str} {rs : List Row}
/-- rules by a look at each -/
theorem slim_lc (U : Rul nms A t rs) {X : List (Row × Nat)} (hX : ∀ x ∈ X, rs[x.2]? = some x.1) (l : X.length ≤ 16) {h : Mh} {Q : List Dv → Mh → Prop} {a0 a2 a3 a4 a5 a6 a7 a8 a9 a10 a11 : Option Dv} (q : Q (nmD (X.filter fun x => slimB x.1)) h) :
    wLc [9] (ggName 9) (gTest (gOp rLtD (gCall cLen (gCons (gLc [11] (gIt (gOp rIxD (gOp rIxD (gOp rIxD (gVar 1) (gC (.int 1))) (gVar 9)) (gC (.int 1)))) (ggName 11) (gTest (gFn sp_l_ais_name (gCons (gVar 11) gNil))) (gVar 11)) gNil)) (gC (.int 2)))) (gVar 9) [a0, some (rulesD t rs), a2, a3, a4, a5, a6, a7, a8, a9, a10, a11] (nmD X) [] h Q := by
  refine wLc_some (fun d => if slimB (rowAt rs d) = true then some d else none) _ _ (fun d hd Q' R' z => ?_) (by rw [nmD_len, List.length_nil, sizeLine_val]; omega) ?_
  · obtain ⟨x, hx, rfl⟩ := List.mem_map.mp hd
    have hr := hX x hx
    have hm := List.mem_of_getElem? hr
    have b4 := U.R.bd _ hm
    have e : rowAt rs (.int (x.2 : Nat)) = x.1 := by
      show (rs[((x.2 : Nat) : Int).toNat]?).getD _ = _
      rw [Int.toNat_natCast, hr]
      rfl
    rw [e] at z
    rw [show rulesD t rs = .tup [.str t, .tup (rs.map rowD)] from rfl]
    simp [-gSeq, -wFor, -wLc]
    refine ⟨_, ⟨x.1.1, x.1.2, by rw [G3.atI_nat, hr], rfl⟩, rIx_tup.mpr ⟨.tup (x.1.2.map Dv.str), rfl, _, rfl, ?_⟩⟩
    refine wLc_some (fun d => if isNm (strD d) = true then some d else none) _ _ (fun d hd Q' R' z => ?_) (by rw [List.length_map, List.length_nil, sizeLine_val]; omega) ?_
    · obtain ⟨w, hw, rfl⟩ := List.mem_map.mp hd
      have ow := U.W.bd _ hm w hw
      simp [-gSeq, -wFor, -wLc]
      refine ais_name_sp ow.sz ?_
      rw [ow.nm]
      have es : strD (.str w) = w := rfl
      rw [es] at z
      cases hw2 : isName (.str w)
      · have hn3 : isNm w = false := hw2
        rw [if_neg (by rw [hn3]; simp)] at z
        exact .inl ⟨rfl, z⟩
      · have hn3 : isNm w = true := hw2
        rw [if_pos hn3] at z
        exact .inr ⟨rfl, z⟩
    · rw [List.nil_append, nml_eq]
      simp
      by_cases c : (nml x.1).length < 2
      · rw [if_pos (by unfold slimB; exact decide_eq_true c)] at z
        exact .inr ⟨by omega, z⟩
      · rw [if_neg (by unfold slimB; simpa using c)] at z
        exact .inl ⟨by omega, z⟩
  · rw [List.nil_append]
    unfold nmD
    rw [filt_nm slimB X hX]
    exact q


theorem low_lc (U : Rul nms A t rs) {f : List Str} {H : Str → Nat} {dh : Addr} {h : Mh} (hk : h dh = some (.dK (kvH f H))) {X : List (Row × Nat)} (hX : ∀ x ∈ X, rs[x.2]? = some x.1 ∧ ∀ w ∈ nml x.1, w ∈ f) (l : X.length ≤ 16) {k : Int} {Q : List Dv → Mh → Prop} {a0 a3 a5 a6 a7 a8 a9 a10 a11 : Option Dv} (q : Q (nmD (X.filter fun x => (fun r => decide ((hiR H r : Int) ≤ k)) x.1)) h) :
    wLc [9] (ggName 9) (gTest (gOp rLeD (gFn sp_l_ahigh (gCons (gVar 1) (gCons (gVar 2) (gCons (gVar 9) gNil)))) (gVar 4))) (gVar 9) [a0, some (rulesD t rs), some (.ref dh), a3, some (.int k), a5, a6, a7, a8, a9, a10, a11] (nmD X) [] h Q := by
  refine wLc_some (fun d => if (fun r => decide ((hiR H r : Int) ≤ k)) (rowAt rs d) = true then some d else none) _ _ (fun d hd Q' R' z => ?_) (by rw [nmD_len, List.length_nil, sizeLine_val]; omega) ?_
  · obtain ⟨x, hx, rfl⟩ := List.mem_map.mp hd
    obtain ⟨hr, hw⟩ := hX x hx
    have e : rowAt rs (.int (x.2 : Nat)) = x.1 := by
      show (rs[((x.2 : Nat) : Int).toNat]?).getD _ = _
      rw [Int.toNat_natCast, hr]
      rfl
    rw [e] at z
    simp [-gSeq, -wFor, -wLc]
    refine ahigh_sp U hk hr hw ?_
    simp
    dsimp only at z
    by_cases c : (hiR H x.1 : Int) ≤ k
    · rw [if_pos (decide_eq_true c)] at z
      first
        | exact .inr ⟨by omega, z⟩
        | exact iteT (by omega) z
        | exact iteT (by simpa using c) z
    · rw [if_neg (by simpa using c)] at z
      first
        | exact .inl ⟨by omega, z⟩
        | exact iteF (by omega) z
        | exact iteF (by simpa using c) z
  · rw [List.nil_append]
    unfold nmD
    rw [filt_nm (fun r => decide ((hiR H r : Int) ≤ k)) X fun x hx => (hX x hx).1]
    exact q

theorem least_lc (U : Rul nms A t rs) {f : List Str} {H : Str → Nat} {dh : Addr} {h : Mh} (hk : h dh = some (.dK (kvH f H))) {X : List (Row × Nat)} (hX : ∀ x ∈ X, rs[x.2]? = some x.1 ∧ ∀ w ∈ nml x.1, w ∈ f) (l : X.length ≤ 16) {k : Int} {Q : List Dv → Mh → Prop} {a0 a3 a4 a5 a6 a7 a9 a10 a11 : Option Dv} (q : Q (nmD (X.filter fun x => (fun r => decide ((hiR H r : Int) = k)) x.1)) h) :
    wLc [9] (ggName 9) (gTest (gOp (rEqD3 false) (gFn sp_l_ahigh (gCons (gVar 1) (gCons (gVar 2) (gCons (gVar 9) gNil)))) (gVar 8))) (gVar 9) [a0, some (rulesD t rs), some (.ref dh), a3, a4, a5, a6, a7, some (.int k), a9, a10, a11] (nmD X) [] h Q := by
  refine wLc_some (fun d => if (fun r => decide ((hiR H r : Int) = k)) (rowAt rs d) = true then some d else none) _ _ (fun d hd Q' R' z => ?_) (by rw [nmD_len, List.length_nil, sizeLine_val]; omega) ?_
  · obtain ⟨x, hx, rfl⟩ := List.mem_map.mp hd
    obtain ⟨hr, hw⟩ := hX x hx
    have e : rowAt rs (.int (x.2 : Nat)) = x.1 := by
      show (rs[((x.2 : Nat) : Int).toNat]?).getD _ = _
      rw [Int.toNat_natCast, hr]
      rfl
    rw [e] at z
    simp [-gSeq, -wFor, -wLc]
    refine ahigh_sp U hk hr hw ?_
    simp
    dsimp only at z
    by_cases c : (hiR H x.1 : Int) = k
    · rw [if_pos (decide_eq_true c)] at z
      first
        | exact .inr ⟨by omega, z⟩
        | exact iteT (by omega) z
        | exact iteT (by simpa using c) z
    · rw [if_neg (by simpa using c)] at z
      first
        | exact .inl ⟨by omega, z⟩
        | exact iteF (by omega) z
        | exact iteF (by simpa using c) z
  · rw [List.nil_append]
    unfold nmD
    rw [filt_nm (fun r => decide ((hiR H r : Int) = k)) X fun x hx => (hX x hx).1]
    exact q

theorem highs_lc (U : Rul nms A t rs) {f : List Str} {H : Str → Nat} {dh : Addr} {h : Mh} (hk : h dh = some (.dK (kvH f H))) {X : List (Row × Nat)} (hX : ∀ x ∈ X, rs[x.2]? = some x.1 ∧ ∀ w ∈ nml x.1, w ∈ f) (l : X.length ≤ 16) {Q : List Dv → Mh → Prop} {a0 a3 a4 a5 a6 a7 a8 a9 a10 a11 : Option Dv} (q : Q ((X.map fun x => ((hiR H x.1 : Nat) : Int)).map Dv.int) h) :
    wLc [9] (ggName 9) gYes (gFn sp_l_ahigh (gCons (gVar 1) (gCons (gVar 2) (gCons (gVar 9) gNil)))) [a0, some (rulesD t rs), some (.ref dh), a3, a4, a5, a6, a7, a8, a9, a10, a11] (nmD X) [] h Q := by
  refine wLc_map (fun d => Dv.int (hiR H (rowAt rs d) : Nat)) _ _ (fun d hd Q' R' z => ?_) (by rw [nmD_len, List.length_nil, sizeLine_val]; omega) ?_
  · obtain ⟨x, hx, rfl⟩ := List.mem_map.mp hd
    obtain ⟨hr, hw⟩ := hX x hx
    have e : rowAt rs (.int (x.2 : Nat)) = x.1 := by
      show (rs[((x.2 : Nat) : Int).toNat]?).getD _ = _
      rw [Int.toNat_natCast, hr]
      rfl
    rw [e] at z
    simp [-gSeq, -wFor, -wLc]
    exact ahigh_sp U hk hr hw z
  · rw [List.nil_append]
    have e : (nmD X).map (fun d => Dv.int (hiR H (rowAt rs d) : Nat)) = (X.map fun x => ((hiR H x.1 : Nat) : Int)).map Dv.int := by
      unfold nmD
      rw [List.map_map, List.map_map]
      refine List.map_congr_left fun x hx => ?_
      have e : rowAt rs (.int (x.2 : Nat)) = x.1 := by
        show (rs[((x.2 : Nat) : Int).toNat]?).getD _ = _
        rw [Int.toNat_natCast, (hX x hx).1]
        rfl
      simp only [Function.comp, e]
    rw [e]
    exact q
end
end L73

namespace L73
open PySem L2 G3
set_option exponentiation.threshold 4000
section
variable {t : Str} {nms A : List Str} {rs : List Row}
theorem min_of {l : List Int} {m : Int} (hm : m ∈ l) (h : ∀ y ∈ l, m ≤ y) : m ∈ l ∧ ∀ y ∈ l, m ≤ y := ⟨hm, h⟩
theorem atree_sp (U : Rul nms A t rs) {f F : List Str} {H : Str → Nat} (I : HI rs nms f H) (hf : ∀ n, n ∈ f ↔ Fru rs n) (hF : ∀ n, n ∈ F ↔ Fru rs n) {dh a : Addr} (ne : dh ≠ a) :
    ∀ (n μ : Nat) {nm : Str} {c : Nat} {left : Int} {h : Mh} {Q : Kd}, μ ≤ n → Okm H nm left μ → nm ∈ f → h dh = some (.dK (kvH f H)) → Feed h a c → c + Bw μ < 2 ^ 40 → μ ≤ 30 →
      (∀ d h', Trs n (Bw μ) [d] → Feed h' a (c + Bw μ) → Kp a h h' → Q d h') → sp_l_atree n [.ref a, rulesD t rs, .ref dh, .str nm, .int left] h Q
  | 0, μ, nm, c, left, h, Q, ln, ok, hn, hk, fd, hc, m30, q => by
    have := (I.le nm hn).1
    rcases ok with ⟨_, _, _, z⟩ | ⟨z, _⟩ <;> omega
  | n + 1, μ, nm, c, left, h, Q, ln, ok, hn, hk, fd, hc, m30, q => by
    have hl := U.l
    have f6 : f.length ≤ 6 := Nat.le_trans I.len U.n
    have H6 : ∀ w ∈ f, 1 ≤ H w ∧ H w ≤ 6 := fun w hw => ⟨(I.le w hw).1, Nat.le_trans (I.le w hw).2 f6⟩
    have hts : Hts h dh F := ⟨_, hk, fun w => by
      rw [val_H]
      by_cases z : w ∈ f
      · rw [if_pos z, decide_eq_true ((hF w).mpr ((hf w).mp z))]; rfl
      · rw [if_neg z, decide_eq_false fun y => z ((hf w).mpr ((hF w).mp y))]; rfl⟩
    refine ⟨rfl, ?_⟩
    refine seq_step ?_
    simp [-gSeq, -wFor, -wLc]
    refine agood_sp U (some nm) hts fun h1 k1 => ?_
    -- the rules of that head
    have hX : ∀ x ∈ good (goodL F rs) (some nm), rs[x.2]? = some x.1 ∧ ∀ w ∈ nml x.1, w ∈ f := fun x hx => by
      obtain ⟨hx1, hx2⟩ := List.mem_filter.mp hx
      refine ⟨(goodL_ix hx1).1, fun w hw => ?_⟩
      have g := (List.mem_filter.mp hx1).2
      obtain ⟨w1, w2⟩ := nml_mem.mp hw
      have := List.all_eq_true.mp g w w1
      rw [w2, Bool.not_true, Bool.false_or, decide_eq_true_eq] at this
      exact (hf w).mpr ((hF w).mp this)
    have gl : (good (goodL F rs) (some nm)).length ≤ 16 := Nat.le_trans (List.length_filter_le _ _) (Nat.le_trans (goodL_len F rs) hl)
    obtain ⟨x0, hx0, hh0⟩ : ∃ x0 ∈ good (goodL F rs) (some nm), hiR H x0.1 ≤ H nm := by
      obtain ⟨r, hr, er, hw⟩ := I.wit nm hn
      obtain ⟨i, hi⟩ := List.getElem?_of_mem hr
      refine ⟨(r, i), List.mem_filter.mpr ⟨List.mem_filter.mpr ⟨?_, ?_⟩, by simp [er]⟩, ?_⟩
      · exact List.mem_iff_getElem?.mpr ⟨i, by simp [hi]⟩
      · refine List.all_eq_true.mpr fun w hw1 => ?_
        cases hn2 : isNm w
        · rfl
        · simpa using (hF w).mpr ((hf w).mp (hw w hw1 hn2).1)
      · unfold hiR
        rcases mx_in ((nml r).map H) with e | e
        · rw [e]; exact (H6 nm hn).1
        · obtain ⟨w, hw1, e2⟩ := List.mem_map.mp e
          obtain ⟨w2, w3⟩ := nml_mem.mp hw1
          have := (hw w w2 w3).2
          simp only
          omega
    have hk1 := k1 _ _ hk
    rw [show goodN (goodL F rs) (some nm) = nmD (good (goodL F rs) (some nm)) from rfl]
    generalize good (goodL F rs) (some nm) = X at hX gl hx0 ⊢
    refine seq_step ?_
    simp [-gSeq, -wFor, -wLc]
    refine slim_lc U (fun x hx => (hX x hx).1) gl ?_
    have sX : ∀ x ∈ X.filter (fun x => slimB x.1), x ∈ X ∧ (nml x.1).length < 2 := fun x hx => let ⟨a, b⟩ := List.mem_filter.mp hx; ⟨a, of_decide_eq_true b⟩
    have sl16 : (X.filter fun x => slimB x.1).length ≤ 16 := Nat.le_trans (List.length_filter_le _ _) gl
    generalize X.filter (fun x => slimB x.1) = S at sX sl16 ⊢
    have nmDd : ∀ Y : List (Row × Nat), dats (nmD Y) = true ∧ deps (nmD Y) = 0 := goodN_dat
    refine seq_cut (fun ρ' h' => ∃ Z, ρ' = [some (.ref a), some (rulesD t rs), some (.ref dh), some (.str nm), some (.int left), some (.lst (nmD Z)), some (.lst (nmD S)), none, none, none, none, none] ∧ h1 = h' ∧ ((3 < left ∧ S ≠ [] ∧ Z = S) ∨ ((left ≤ 3 ∨ S = []) ∧ Z = X))) (fun N hN => ?_) ?_
    · simp [-gSeq, nmDd, deqs_nmD]
      by_cases c3 : left ≤ 3
      · exact .inl ⟨c3, hN _ _ ⟨X, rfl, rfl, .inr ⟨.inl c3, rfl⟩⟩⟩
      · refine .inr ⟨by omega, ?_⟩
        by_cases cS : S = []
        · exact .inl ⟨cS, hN _ _ ⟨X, rfl, rfl, .inr ⟨.inr cS, rfl⟩⟩⟩
        · exact .inr ⟨cS, hN _ _ ⟨S, rfl, rfl, .inl ⟨by omega, cS, rfl⟩⟩⟩
    · rintro _ _ ⟨Z, rfl, rfl, hZ⟩
      refine seq_cut (fun ρ' h' => ∃ l2 : Int, ρ' = [some (.ref a), some (rulesD t rs), some (.ref dh), some (.str nm), some (.int l2), some (.lst (nmD Z)), some (.lst (nmD S)), none, none, none, none, none] ∧ h1 = h' ∧ ((l2 ≤ 3 ∧ Z = X ∧ (left ≤ 3 → l2 = left) ∧ (3 < left → l2 = 3)) ∨ (3 < left ∧ Z = S ∧ S ≠ [] ∧ l2 = left))) (fun N hN => ?_) ?_
      · simp [-gSeq, -wFor, -wLc, nmDd, deqs_nmD]
        by_cases cS : S = []
        · refine .inl ⟨cS, hN _ _ ⟨_, rfl, rfl, .inl ?_⟩⟩
          have hZX : Z = X := by
            rcases hZ with ⟨_, z, _⟩ | ⟨_, z⟩
            · exact absurd cS z
            · exact z
          exact ⟨by split <;> omega, hZX, fun z => by rw [if_neg (by omega)], fun z => by rw [if_pos z]⟩
        · refine .inr ⟨cS, hN _ _ ⟨_, rfl, rfl, ?_⟩⟩
          rcases hZ with ⟨z1, z2, z3⟩ | ⟨z1, z3⟩
          · exact .inr ⟨z1, z3, z2, rfl⟩
          · rcases z1 with z1 | z1
            · exact .inl ⟨z1, z3, fun _ => rfl, fun z => by omega⟩
            · exact absurd z1 cS
      · rintro _ _ ⟨l2, rfl, rfl, hl2⟩
        have hZX : ∀ x ∈ Z, x ∈ X := by
          rcases hl2 with ⟨_, z, _⟩ | ⟨_, z, _⟩
          · rw [z]; exact fun x h => h
          · rw [z]; exact fun x h => (sX x h).1
        have hZ16 : Z.length ≤ 16 := by
          rcases hl2 with ⟨_, z, _⟩ | ⟨_, z, _⟩
          · rw [z]; exact gl
          · rw [z]; exact sl16
        have hZ0 : Z ≠ [] := by
          rcases hl2 with ⟨_, z, _⟩ | ⟨_, z, z2, _⟩
          · rw [z]; exact List.ne_nil_of_mem hx0
          · rw [z]; exact z2
        have hH : ∀ (x : Row × Nat), ∀ w ∈ nml x.1, H w + 1 ≤ hiR H x.1 := fun x w hw => by
          have := mx_le (List.mem_map.mpr ⟨w, hw, rfl⟩ : H w ∈ (nml x.1).map H)
          unfold hiR
          omega
        have key : ∀ x ∈ Z, ((hiR H x.1 : Int) ≤ l2 ∨ ∀ y ∈ Z, hiR H x.1 ≤ hiR H y.1) → ∃ μ1 cN, μ1 + 1 ≤ μ ∧ (nml x.1).length ≤ cN ∧ 7 + cN * Bw μ1 ≤ Bw μ ∧ ∀ w ∈ nml x.1, w ∈ f ∧ Okm H w (l2 - 1) μ1 := fun x hx hlo => by
          have hwf := (hX x (hZX x hx)).2
          have b4 := nml_len (U.R.bd _ (List.mem_of_getElem? (hX x (hZX x hx)).1))
          rcases hl2 with ⟨z1, z2, z3, z4⟩ | ⟨z1, z2, _, z3⟩
          · have hle : (hiR H x.1 : Int) ≤ max l2 (H nm) := by
              rcases hlo with z | z
              · omega
              · have := z x0 (by rw [z2]; exact hx0)
                omega
            rcases ok with ⟨o1, o2, o3, o4⟩ | ⟨o1, o2⟩
            · have e := z3 o1
              have h1 := (H6 nm hn).1
              obtain ⟨μ1, rfl⟩ : ∃ m, μ = m + 1 := ⟨μ - 1, by omega⟩
              refine ⟨μ1, 4, Nat.le_refl _, b4, ?_, fun w hw => ⟨hwf w hw, .inl ⟨by omega, by omega, by omega, ?_⟩⟩⟩
              · rw [Bw, if_pos (by omega)]
                omega
              · have := hH x w hw
                omega
            · have e := z4 (by omega)
              have h1 := (H6 nm hn).2
              refine ⟨5, 4, by omega, b4, Nat.le_trans (by decide) (Bw_mono (show 6 ≤ μ by omega)), fun w hw => ⟨hwf w hw, .inl ⟨by omega, by omega, by omega, ?_⟩⟩⟩
              have := hH x w hw
              omega
          · rcases ok with ⟨o1, o2, o3, o4⟩ | ⟨o1, o2⟩
            · omega
            · obtain ⟨μ1, rfl⟩ : ∃ m, μ = m + 1 := ⟨μ - 1, by omega⟩
              refine ⟨μ1, 1, Nat.le_refl _, by have := (sX x (z2 ▸ hx)).2; omega, ?_, fun w hw => ⟨hwf w hw, ?_⟩⟩
              · rw [Bw, if_neg (by omega)]
                omega
              · by_cases c6 : 6 < μ1
                · exact .inr ⟨c6, by omega⟩
                · exact .inl ⟨by omega, by omega, by omega, by have := (H6 w (hwf w hw)).2; omega⟩
        have hXZ : ∀ x ∈ Z, rs[x.2]? = some x.1 ∧ ∀ w ∈ nml x.1, w ∈ f := fun x hx => hX x (hZX x hx)
        refine seq_step ?_
        simp [-gSeq, -wFor, -wLc]
        refine low_lc U hk1 hXZ hZ16 ?_
        have lowP : ∀ x ∈ Z.filter (fun x => (fun r => decide ((hiR H r : Int) ≤ l2)) x.1), x ∈ Z ∧ (hiR H x.1 : Int) ≤ l2 := fun x hx => let ⟨a, b⟩ := List.mem_filter.mp hx; ⟨a, of_decide_eq_true b⟩
        have low16 : (Z.filter fun x => (fun r => decide ((hiR H r : Int) ≤ l2)) x.1).length ≤ 16 := Nat.le_trans (List.length_filter_le _ _) hZ16
        generalize Z.filter (fun x => (fun r => decide ((hiR H r : Int) ≤ l2)) x.1) = L0 at lowP low16 ⊢
        refine seq_cut (fun ρ' h' => ∃ (L : List (Row × Nat)) (a8 : Option Dv), ρ' = [some (.ref a), some (rulesD t rs), some (.ref dh), some (.str nm), some (.int l2), some (.lst (nmD Z)), some (.lst (nmD S)), some (.lst (nmD L)), a8, none, none, none] ∧ h1 = h' ∧ L ≠ [] ∧ L.length ≤ 16 ∧ ∀ x ∈ L, x ∈ Z ∧ ((hiR H x.1 : Int) ≤ l2 ∨ ∀ y ∈ Z, hiR H x.1 ≤ hiR H y.1)) (fun N hN => ?_) ?_
        · simp [-gSeq, -wFor, -wLc, nmDd, deqs_nmD]
          by_cases cL : L0 = []
          · rw [if_pos cL]
            refine seq_step ?_
            simp [-gSeq, -wFor, -wLc]
            refine highs_lc U hk1 hXZ hZ16 ?_
            refine .inl ⟨.lst _, _, rfl, rfl, by rw [List.length_map]; exact List.length_pos_iff.mpr hZ0, fun m hm hy => ?_⟩
            simp only
            refine least_lc U hk1 hXZ hZ16 ?_
            obtain ⟨xm, hxm, rfl⟩ := List.mem_map.mp hm
            refine hN _ _ ⟨_, _, rfl, rfl, List.ne_nil_of_mem (List.mem_filter.mpr ⟨hxm, by simp⟩), Nat.le_trans (List.length_filter_le _ _) hZ16, fun x hx => ?_⟩
            obtain ⟨p1, p2⟩ := List.mem_filter.mp hx
            have p3 := of_decide_eq_true p2
            refine ⟨p1, .inr fun y hy2 => ?_⟩
            have := hy _ (List.mem_map.mpr ⟨y, hy2, rfl⟩)
            omega
          · rw [if_neg cL]
            exact hN _ _ ⟨L0, _, rfl, rfl, cL, low16, fun x hx => ⟨(lowP x hx).1, .inl (lowP x hx).2⟩⟩
        · rintro _ _ ⟨L, a8, rfl, rfl, L0, L16, hL⟩
          have f1 := Feed.kpa fd k1
          have Lp := List.length_pos_iff.mpr L0
          refine seq_step ?_
          simp [-gSeq, -wFor, -wLc, nmD_len]
          refine adraw_sp f1 (by omega) (by omega) (by omega) fun y h2 y0 y1 f2 o2 => ?_
          refine rIx_lst.mpr ?_
          refine pick_ix (fun d => ∃ x ∈ L, d = .int (x.2 : Nat)) y0 (by rw [nmD_len]; exact y1) (fun d hd => ?_) (fun d hd => ?_)
          · obtain ⟨x, hx, rfl⟩ := List.mem_map.mp hd
            exact ⟨x, hx, rfl⟩
          obtain ⟨x, hx, rfl⟩ := hd
          obtain ⟨hxZ, hxl⟩ := hL x hx
          obtain ⟨μ1, cN, m1, nc, bw, kids⟩ := key x hxZ hxl
          have hr := (hXZ x hxZ).1
          have hm := List.mem_of_getElem? hr
          have hi16 : x.2 < 16 := by have := (List.getElem?_eq_some_iff.mp hr).1; omega
          have b4 := U.R.bd _ hm
          have ow := U.W.bd _ hm
          have hk2 : h2 dh = some (.dK (kvH f H)) := by rw [o2 dh ne]; exact hk1
          have kp2 : Kp a h h2 := fun b m nb e => by rw [o2 b nb]; exact k1 _ _ e
          refine seq_step ?_
          simp [-gSeq, -wFor, -wLc]
          intro p8 hp8
          have n8a : p8 ≠ a := f2.ne hp8
          have hp8' : (mput h2 p8 (Mo.lst [])) p8 = some (.lst []) := mput_same
          have hk3 : (mput h2 p8 (Mo.lst [])) dh = some (.dK (kvH f H)) := by
            rw [mput_ne (fun z => by rw [z, hp8] at hk2; cases hk2)]
            exact hk2
          have kp3 : Kp a h (mput h2 p8 (Mo.lst [])) := fun b m nb e => by
            have e2 := kp2 b m nb e
            rw [mput_ne (fun z => by rw [z, hp8] at e2; cases e2)]
            exact e2
          have hn8 : h p8 = none := by
            cases z : h p8 with
            | none => rfl
            | some m => have := kp2 p8 m n8a z; rw [hp8] at this; cases this
          have f3 : Feed (mput h2 p8 (Mo.lst [])) a (c + 1) := f2.put n8a.symm
          generalize mput h2 p8 (Mo.lst []) = h3 at hp8' kp3 f3 hk3
          refine seq_step ?_
          rw [show rulesD t rs = .tup [.str t, .tup (rs.map rowD)] from rfl]
          simp [-gSeq, -wFor, -wLc, hr]
          refine ⟨_, ⟨x.1.1, x.1.2, by rw [G3.atI_nat, hr], rfl⟩, rIx_tup.mpr ⟨.tup (x.1.2.map Dv.str), rfl, _, rfl, ?_⟩⟩
          refine wFor_inv _ (fun j ρ' h' => ∃ a11, ∃ ks : List Dv, ρ' = [some (.ref a), some (.tup [.str t, .tup (rs.map rowD)]), some (.ref dh), some (.str nm), some (.int l2), some (.lst (nmD Z)), some (.lst (nmD S)), some (.lst (nmD L)), a8, some (.int (x.2 : Nat)), some (.ref p8), a11] ∧ h' p8 = some (.lst ks) ∧ ks.length = j ∧ Trs n (j + ((x.1.2.take j).filter isNm).length * Bw μ1) ks ∧ Feed h' a (c + 1 + ((x.1.2.take j).filter isNm).length * Bw μ1) ∧ Kp a h h' ∧ h' dh = some (.dK (kvH f H))) _ _ (fun j d ρ' h' N2 hI hd hN2 => ?_) ⟨none, [], rfl, hp8', rfl, by simpa using Trs.nil n, by simpa using f3, kp3, hk3⟩ (fun ρ' h' hI => ?_)
          · obtain ⟨a11, ks, rfl, hk8, kl, K, f4, kp4, hk4⟩ := hI
            rw [List.getElem?_map] at hd
            obtain ⟨w, hw1, rfl⟩ := Option.map_eq_some_iff.mp hd
            have hwm := List.mem_of_getElem? hw1
            have oww := ow w hwm
            have jl : j < x.1.2.length := (List.getElem?_eq_some_iff.1 hw1).1
            have e1 : x.1.2.take (j + 1) = x.1.2.take j ++ [w] := by rw [List.take_add_one, hw1]; rfl
            have cnt : ((x.1.2.take (j + 1)).filter isNm).length ≤ cN := by
              refine Nat.le_trans ?_ nc
              unfold nml
              exact List.Sublist.length_le (List.Sublist.filter _ (List.take_sublist _ _))
            have cB := Nat.mul_le_mul_right (Bw μ1) cnt
            rw [e1, List.filter_append, List.length_append] at cB
            simp only [ggName]
            simp [-gSeq, -wFor, -wLc, hk8]
            refine ais_name_sp oww.sz ?_
            rw [oww.nm]
            have fin : ∀ (k : Dv) (h5 : Mh), Trs n (1 + (if isNm w = true then Bw μ1 else 0)) [k] → h5 p8 = some (.lst ks) → Feed h5 a (c + 1 + ((x.1.2.take j).filter isNm).length * Bw μ1 + (if isNm w = true then Bw μ1 else 0)) → Kp a h h5 → h5 dh = some (.dK (kvH f H)) → N2 [some (.ref a), some (.tup [.str t, .tup (rs.map rowD)]), some (.ref dh), some (.str nm), some (.int l2), some (.lst (nmD Z)), some (.lst (nmD S)), some (.lst (nmD L)), a8, some (.int (x.2 : Nat)), some (.ref p8), some (.str w)] (mput h5 p8 (.lst (ks ++ [k]))) := fun k h5 tk h85 f5 kp5 hk5 => by
              have ec : ((x.1.2.take (j + 1)).filter isNm).length * Bw μ1 = ((x.1.2.take j).filter isNm).length * Bw μ1 + (if isNm w = true then Bw μ1 else 0) := by
                rw [e1, List.filter_append, List.length_append, Nat.add_mul]
                congr 1
                by_cases c : isNm w = true <;> simp [c]
              refine hN2 _ _ ⟨_, ks ++ [k], rfl, mput_same, by rw [List.length_append, List.length_singleton, kl], ?_, ?_, fun b m nb e => ?_, ?_⟩
              · rw [ec]
                refine (K.snoc tk).mono ?_
                omega
              · rw [ec]
                exact (f5.put n8a.symm).mono (by omega)
              · rw [mput_ne (fun z => by rw [z, hn8] at e; cases e)]
                exact kp5 b m nb e
              · rw [mput_ne (fun z => by rw [z, h85] at hk5; cases hk5)]
                exact hk5
            cases hn2 : isName (.str w)
            · have hn3 : isNm w = false := hn2
              refine .inl ⟨rfl, _, hk8, by omega, fin _ _ ?_ hk8 ?_ kp4 hk4⟩
              · rw [hn3, if_neg (by simp)]
                exact Trs.sign oww.wd.1
              · rw [hn3, if_neg (by simp)]
                exact f4
            · have hn3 : isNm w = true := hn2
              refine .inr ⟨rfl, ?_⟩
              obtain ⟨wf, wo⟩ := kids w (nml_mem.mpr ⟨hwm, hn3⟩)
              have c1 : ([w].filter isNm).length = 1 := by simp [hn3]
              rw [c1, Nat.add_mul, Nat.one_mul] at cB
              refine atree_sp U I hf hF ne n μ1 (by omega) wo wf hk4 f4 (by omega) (by omega) fun k h5 tb f5 kp5 => ?_
              refine ⟨_, kp5 p8 _ n8a hk8, by omega, fin _ _ ?_ (kp5 p8 _ n8a hk8) ?_ (kp4.trans kp5) (kp5 dh _ ne hk4)⟩
              · rw [hn3, if_pos rfl]
                exact tb.mono (by omega)
              · rw [hn3, if_pos rfl]
                exact f5
          · obtain ⟨a11, ks, rfl, hk8, kl, K, f4, kp4, hk4⟩ := hI
            rw [List.length_map, List.take_length] at K f4
            have cB : (x.1.2.filter isNm).length * Bw μ1 ≤ cN * Bw μ1 := Nat.mul_le_mul_right _ nc
            simp [-gSeq, -wFor, hk8]
            refine q _ _ ((K.node hi16).mono ?_) (f4.mono (by omega)) kp4
            omega
end
end L73

namespace L73
open PySem L2 G3
set_option exponentiation.threshold 4000
theorem begs_rt {G : List (Row × Nat)} {w : Str} {hd : Option Str} {s t : Cst} (e : begs G w hd s = some t) : t.rt = s.rt := by
  unfold begs at e
  split at e
  · cases e; rfl
  · cases e
theorem step_rt {G : List (Row × Nat)} {s t : Cst} {w : Str} (e : step G s w = some t) : t.rt = none ∨ ∃ k, t.rt = some (kdone k) := by
  obtain ⟨ks, hd, bg, rt⟩ := s
  cases rt with
  | some d => cases e
  | none =>
    cases bg with
    | true =>
      simp only [step] at e
      split at e
      · cases e
      · split at e
        · cases e; exact .inl rfl
        · cases e
    | false =>
      cases ks with
      | nil => exact .inl (begs_rt (s := ⟨[], hd, false, none⟩) e)
      | cons k ks =>
        simp only [step] at e
        split at e
        · split at e
          · cases e
            cases ks with
            | nil => exact .inr ⟨k, rfl⟩
            | cons k2 ks => exact .inl rfl
          · cases e
        · split at e
          · exact .inl (begs_rt e)
          · split at e
            · cases e; exact .inl rfl
            · cases e
theorem run_rt {G : List (Row × Nat)} : ∀ (ws : List Str) (i : Nat) (s t : Cst), (s.rt = none ∨ ∃ k, s.rt = some (kdone k)) → run G s i ws = .ok t → t.rt = none ∨ ∃ k, t.rt = some (kdone k)
  | [], i, s, t, h, e => by cases e; exact h
  | w :: ws, i, s, t, h, e => by
    cases es : step G s w with
    | none => simp only [run, es] at e; cases e
    | some u =>
      simp only [run, es] at e
      exact run_rt ws (i + 1) u t (step_rt es) e
theorem told_tup {G : List (Row × Nat)} {ws : List Str} {x : Dv} (h : told G ws = .inr x) : ∃ ks, x = .tup ks := by
  unfold told at h
  split at h
  · cases h
  · rename_i s e
    split at h
    · cases h
    · rename_i d hd
      cases h
      rcases run_rt ws 0 c0 s (.inl rfl) e with z | ⟨k, z⟩
      · rw [hd] at z; cases z
      · rw [hd] at z; cases z; exact ⟨_, rfl⟩
theorem gok_of {t : Str} {nms A : List Str} {rs : List Row} (U : Rul nms A t rs) {F : List Str} (hF : ∀ n, n ∈ F ↔ Fru rs n) : GOk (goodL F rs) := by
  refine ⟨fun x hx u hu hn => ?_, fun x hx => Nat.lt_of_lt_of_le (goodL_ix hx).2 U.l, goodL_pw F rs⟩
  have g := List.all_eq_true.mp (List.mem_filter.mp hx).2 u hu
  have hn2 : isNm u = true := hn
  rw [hn2, Bool.not_true, Bool.false_or, decide_eq_true_eq] at g
  obtain ⟨k, hk⟩ := (hF u).mp g
  cases k with
  | zero => cases hk
  | succ k =>
    obtain ⟨r, hr, er, hw⟩ := fr_succ.mp hk
    obtain ⟨i, hi⟩ := List.getElem?_of_mem hr
    refine ⟨(r, i), List.mem_filter.mpr ⟨List.mem_iff_getElem?.mpr ⟨i, by simp [hi]⟩, ?_⟩, er⟩
    refine List.all_eq_true.mpr fun w hw1 => ?_
    cases hn3 : isNm w
    · rfl
    · simpa using (hF w).mpr ⟨k, hw w hw1 hn3⟩
theorem aright_sp {t : Str} {nms A : List Str} {rs : List Row} (U : Rul nms A t rs) {F : List Str} (hF : Srt (Fru rs) F) (hF6 : F.length ≤ 6) {dh : Addr} {z : Str} {h : Mh} {Q : Kd} (H : Hts h dh F) (hz : z.length ≤ 1150) (q : ∀ h', Kpa h h' → Q (.bl true) h') : sp_l_aright [rulesD t rs, .ref dh, .str z] h Q := by
  obtain ⟨first, others, L⟩ := line_of (z := z) (by omega)
  have G := gok_of U hF.mem
  have hsp : Txt.split z " " = first :: others := L.sp
  have hj : jl (first :: others) = z.length + 1 := by
    have := split_len z (by rw [show (Str.ofString " ") = (" " : Str) from rfl, hsp]; simp)
    rwa [show (Str.ofString " ") = (" " : Str) from rfl, hsp] at this
  have hwl := jl_len (first :: others)
  obtain ⟨d1, d2⟩ := told_due G (first :: others)
  refine ⟨rfl, ?_⟩
  refine seq_step ?_
  simp [-gSeq, L.sp]
  refine ⟨by decide, by omega, ?_⟩
  refine seq_step ?_
  simp [-gSeq]
  refine adue_sp U H (ws := first :: others) (by omega) fun h1 k1 => ?_
  refine seq_step ?_
  simp [-gSeq, ggCons]
  refine anum_sp U hF hF6 L fun h2 k2 => ?_
  cases hd : dueN (goodL F rs) (first :: others) with
  | some k =>
    rw [d1 k hd]
    simp [-gSeq, numD, dueD, ggCons]
    refine ⟨_, _, ⟨rfl, rfl⟩, _, _, rfl, rfl, ?_⟩
    refine seq_step ?_
    simp [-gSeq]
    exact same_int (q _ (k1.trans k2))
  | none =>
    obtain ⟨x, d, e1, tw⟩ := told_words G hd
    rw [e1]
    simp [-gSeq, numD, dueD, ggCons]
    refine ⟨_, _, ⟨rfl, rfl⟩, _, _, rfl, rfl, ?_⟩
    obtain ⟨ks, rfl⟩ := told_tup e1
    obtain ⟨d', tw', low⟩ := tw.low
    refine seq_step ?_
    generalize hR : sp_l_atree_words 200 = R
    simp [-gSeq]
    rw [← hR]
    refine tree_words_sp 200 d' _ _ tw' (by omega) (by omega) _ ?_
    obtain ⟨s1, s2⟩ := strs_dat (first :: others)
    refine ⟨⟨s1, by show deps _ + 1 ≤ 60; rw [s2]; omega⟩, iteT ?_ (q _ (k1.trans k2))⟩
    have := deqs_strs (first :: others) (first :: others)
    rw [decide_eq_true rfl] at this
    exact this
end L73

namespace L73
open PySem L2 G3
set_option exponentiation.threshold 4000
theorem jl_sum (ws : List Str) : (ws.map fun x => x.length).sum + ws.length = jl ws := by
  induction ws with
  | nil => rfl
  | cons w ws ih => rw [jl_cons, ← ih]; simp; omega
theorem Wq.mono {J L K M : Nat} {d : Dv} (w : Wq J L d) (h : J ≤ K) (g : L ≤ M) : Wq K M d := let ⟨ws, e, a, b⟩ := w; ⟨ws, e, Nat.le_trans a h, fun x hx => Nat.le_trans (b x hx) g⟩
theorem trs_words {n B : Nat} {x : Dv} (t : Trs n B [x]) (hn : n < 200) (hB : B ≤ 1000000) {h : Mh} {Q : Kd} (q : ∀ ws : List Str, ws.length ≤ B → (∀ w ∈ ws, w.length ≤ 6) → Q (.lst (ws.map Dv.str)) h) : sp_l_atree_words 200 [x] h Q := by
  obtain ⟨ws, tw, l, s⟩ := t
  exact tree_words_sp 200 n x ws tw hn (by omega) Q (q ws l s)
theorem six_le {c : Prop} (d : Decidable c) : (6 * @ite Int c d 1 0).toNat ≤ 6 := by
  cases d with
  | isTrue h => rw [if_pos h]; decide
  | isFalse h => rw [if_neg h]; decide
theorem six_no {c : Prop} (d : Decidable c) (n : ¬ c) : (6 * @ite Int c d 1 0).toNat = 0 := by
  rw [if_neg n]; decide
theorem law_end : ∀ ns : List Int, ns.length ≤ 63 → sp_law [.lst (ns.map Dv.int)] (fun _ => none) (fun v _ => v = .bl true) := by
  intro ns hl
  refine ⟨rfl, ?_⟩
  unfold W_law
  generalize hR1 : sp_l_atree_words 200 = R1
  generalize hR2 : sp_l_atree 30 = R2
  refine seq_step ?_
  simp [-gSeq, -wFor]
  refine aopen_sp fun a h1 _ f1 => ?_
  refine seq_step ?_
  simp [-gSeq, -wFor]
  refine wFor_inv _ (fun i ρ' h' => ∃ v2 v3 v4 v5 v6 v7 v8 v9, ρ' = [some (.lst (ns.map Dv.int)), some (.ref a), v2, v3, v4, v5, v6, v7, v8, v9] ∧ Feed h' a (200000 * i)) _ _ (fun i d ρ' h' N hI hd hN => ?_) ⟨_, _, _, _, _, _, _, _, rfl, f1⟩ (fun ρ' h' hI => ?_)
  · obtain ⟨v2, v3, v4, v5, v6, v7, v8, v9, rfl, f3⟩ := hI
    have hi := (rng_get hd).1
    simp only [ggName]
    refine seq_step ?_
    simp [-gSeq, -wFor]
    refine awide_sp f3 (by omega) fun t rs nms h2 U f4 => ?_
    refine seq_step ?_
    simp [-gSeq, -wFor]
    refine aheights_sp U fun p f H hp I hf => ?_
    have npa : p ≠ a := f4.ne hp
    have f5 := f4.put (o := .dK (kvH f H)) npa.symm
    have hk5 : (mput h2 p (.dK (kvH f H))) p = some (.dK (kvH f H)) := mput_same
    generalize mput h2 p (.dK (kvH f H)) = h5 at f5 hk5
    have f6 : f.length ≤ 6 := Nat.le_trans I.len U.n
    refine seq_step ?_
    simp [-gSeq, -wFor]
    refine .inl ⟨_, rfl, .inr (.inr ⟨p, _, f, rfl, .inl hk5, by unfold kvH; rw [List.map_map]; rfl, by omega, fun ys yp ysr => ?_⟩)⟩
    have hF : Srt (Fru rs) ys := srt_of I.nd hf yp ysr
    have yl : ys.length ≤ 6 := by rw [yp.length_eq]; exact f6
    have hts : Hts h5 p ys := ⟨_, hk5, fun w => by
      rw [val_H]
      by_cases z : w ∈ f
      · rw [if_pos z, decide_eq_true ((hF.mem w).mpr ((hf w).mp z))]; rfl
      · rw [if_neg z, decide_eq_false fun y => z ((hf w).mpr ((hF.mem w).mp y))]; rfl⟩
    refine seq_cut (fun ρ' h' => ∃ v6, ρ' = [some (.lst (ns.map Dv.int)), some (.ref a), some d, some (rulesD t rs), some (.ref p), some (.lst (ys.map Dv.str)), v6, v7, v8, v9] ∧ Kpa h5 h') (fun N2 hN2 => ?_) ?_
    · simp [-gSeq, -wFor]
      refine wFor_inv _ (fun j ρ' h' => ∃ v6, ρ' = [some (.lst (ns.map Dv.int)), some (.ref a), some d, some (rulesD t rs), some (.ref p), some (.lst (ys.map Dv.str)), v6, v7, v8, v9] ∧ Kpa h5 h') _ _ (fun j e ρ' h' N3 hI he hN3 => ?_) ⟨_, rfl, Kpa.refl _⟩ (fun ρ' h' hI => hN2 _ _ hI)
      obtain ⟨v6, rfl, k6⟩ := hI
      obtain ⟨z, rfl, hz⟩ : ∃ z : Str, e = .str z ∧ z.length ≤ 1150 := by
        have hm := List.mem_of_getElem? he
        simp only [List.mem_cons, List.not_mem_nil, or_false] at hm
        rcases hm with rfl | rfl | rfl | rfl | rfl | rfl | rfl | rfl | rfl | rfl <;> exact ⟨_, rfl, by decide⟩
      simp [-gSeq, -wFor]
      refine aright_sp U hF yl (hts.kpa k6) hz fun h7 k7 => ?_
      simp
      exact hN3 _ _ ⟨_, rfl, k6.trans k7⟩
    · rintro ρ' h' ⟨v6, rfl, k6⟩
      have f7 := Feed.kpa f5 k6
      have hk7 := k6 _ _ hk5
      have hts7 := hts.kpa k6
      clear hts f5 hk5
      simp [-gSeq, -wFor]
      generalize em : @ite Int (deqs (List.map Dv.str ys) [] = false) _ 1 0 = m
      have m1 : 0 ≤ m ∧ m ≤ 1 := by rw [← em]; split <;> decide
      obtain ⟨m1, m2⟩ := m1
      clear em
      refine ⟨mulOk (by decide) (by omega), by omega, by omega, ?_⟩
      refine wFor_inv _ (fun j ρ' h' => ∃ v6 v7 v8 v9, ρ' = [some (.lst (ns.map Dv.int)), some (.ref a), some d, some (rulesD t rs), some (.ref p), some (.lst (ys.map Dv.str)), v6, v7, v8, v9] ∧ Feed h' a (200000 * i + 600 + 30000 * j) ∧ h' p = some (.dK (kvH f H))) _ _ (fun j e ρ' h' N3 hI he hN3 => ?_) ⟨_, _, _, _, rfl, f7.mono (by omega), hk7⟩ (fun ρ' h' hI => ?_)
      · obtain ⟨v6, v7, v8, v9, rfl, f8, hk8⟩ := hI
        obtain ⟨hj, rfl⟩ := rng_get he
        have hj6 : j < 6 := Nat.lt_of_lt_of_le hj (six_le _)
        have yne : ys ≠ [] := fun e => by
          exact absurd (Nat.lt_of_lt_of_le hj (Nat.le_of_eq (six_no _ (by rw [e]; simp [deqs])))) (Nat.not_lt_zero _)
        have yp0 : 0 < ys.length := List.length_pos_iff.mpr yne
        simp only [ggName]
        refine seq_step ?_
        simp [-gSeq, -wFor]
        refine adraw_sp f8 (by omega) (by omega) (by omega) fun r h9 r0 r1 f9 o9 => ?_
        obtain ⟨x, hx, hxm⟩ := atI_ok (xs := ys.map Dv.str) r0 (by rw [List.length_map]; exact r1)
        obtain ⟨hd1, hdm, rfl⟩ := List.mem_map.mp hxm
        refine rIx_lst.mpr ⟨_, hx, ?_⟩
        have hk9 : h9 p = some (.dK (kvH f H)) := by rw [o9 p npa]; exact hk8
        refine seq_step ?_
        simp [-gSeq, -wFor]
        refine adraw_sp f9 (by omega) (by decide) (by decide) fun s h10 s0 s1 f10 o10 => ?_
        have hk10 : h10 p = some (.dK (kvH f H)) := by rw [o10 p npa]; exact hk9
        have hdf : hd1 ∈ f := (hf _).mpr ((hF.mem _).mp hdm)
        have H6 := Nat.le_trans (I.le _ hdf).2 f6
        obtain ⟨y, hy, k, μ, rfl, m23, ok⟩ := atI_pick (xs := [Dv.int 1, Dv.int 3, Dv.int 4, Dv.int 20]) (fun x => ∃ (k : Int) (μ : Nat), x = .int k ∧ μ ≤ 23 ∧ Okm H hd1 k μ) s0 s1 (fun x hx => by
          simp only [List.mem_cons, List.not_mem_nil, or_false] at hx
          rcases hx with rfl | rfl | rfl | rfl
          · exact ⟨1, 6, rfl, by decide, .inl ⟨by decide, by decide, by decide, H6⟩⟩
          · exact ⟨3, 6, rfl, by decide, .inl ⟨by decide, by decide, by decide, H6⟩⟩
          · exact ⟨4, 7, rfl, by decide, .inr ⟨by decide, by decide⟩⟩
          · exact ⟨20, 23, rfl, by decide, .inr ⟨by decide, by decide⟩⟩)
        refine rIx_lst.mpr ⟨_, hy, ?_⟩
        rw [← hR2]
        have bB : Bw μ ≤ 20000 := Nat.le_trans (Bw_mono m23) (by decide)
        refine atree_sp U I hf hF.mem npa 30 μ (by omega) ok hdf hk10 f10 (by omega) (by omega) fun tr h11 tB f11 kp11 => ?_
        have hk11 := kp11 p _ npa hk10
        rw [← hR1]
        refine trs_words tB (by decide) (by omega) fun ws wl wl6 => ?_
        skip
        refine seq_cut (fun ρ' h' => ∃ e, ρ' = [some (.lst (ns.map Dv.int)), some (.ref a), some d, some (rulesD t rs), some (.ref p), some (.lst (ys.map Dv.str)), v6, some (.int (j : Nat)), some (.str hd1), some e] ∧ Wq 901 40 e ∧ Feed h' a (200000 * i + 600 + 30000 * j + 20002) ∧ h' p = some (.dK (kvH f H))) (fun N4 hN4 => ?_) ?_
        · simp [-gSeq, -wFor]
          have js := jl_sum ws
          have jle := tjoin_le ws
          have wlj : jl ws ≤ 7 * ws.length := by
            have := jlD_le (L := 6) (ds := ws.map Dv.str) fun d hd => let ⟨w, hw, e⟩ := List.mem_map.mp hd; e ▸ wo_str (wl6 w hw)
            rw [jlD_strs, List.length_map] at this
            omega
          have e1 : (Str.ofString " ").length = 1 := rfl
          have hmul : ws.length * (Str.ofString " ").length = ws.length := by rw [e1, Nat.mul_one]
          refine ⟨ws, rfl, by rw [hmul]; omega, by omega, ?_⟩
          by_cases c : (Txt.join (Str.ofString " ") ws).length ≤ 900
          · refine .inl ⟨by omega, hN4 _ _ ⟨_, rfl, ⟨ws, rfl, ?_, fun w hw => Nat.le_trans (wl6 w hw) (by decide)⟩, f11.mono (by omega), hk11⟩⟩
            by_cases z : ws = []
            · rw [z]; decide
            · have := tjoin_len z
              omega
          · refine .inr ⟨by omega, hN4 _ _ ⟨_, rfl, ?_, f11.mono (by omega), hk11⟩⟩
            rw [cutD_to (by decide), ← List.map_take]
            refine ⟨ws.take 40, rfl, ?_, fun w hw => Nat.le_trans (wl6 w (List.mem_of_mem_take hw)) (by decide)⟩
            have := jlD_le (L := 6) (ds := (ws.take 40).map Dv.str) fun d hd => let ⟨w, hw, e⟩ := List.mem_map.mp hd; e ▸ wo_str (wl6 w (List.mem_of_mem_take hw))
            rw [jlD_strs, List.length_map, List.length_take] at this
            omega
        · rintro ρ' h' ⟨e, rfl, we, f12, hk12⟩
          refine seq_cut (fun ρ' h' => ∃ e, ρ' = [some (.lst (ns.map Dv.int)), some (.ref a), some d, some (rulesD t rs), some (.ref p), some (.lst (ys.map Dv.str)), v6, some (.int (j : Nat)), some (.str hd1), some e] ∧ Wq 1024 41 e ∧ Feed h' a (200000 * i + 600 + 30000 * j + 20402) ∧ h' p = some (.dK (kvH f H))) (fun N4 hN4 => ?_) ?_
          · simp [-gSeq, -wFor]
            refine adraw_sp f12 (by omega) (by decide) (by decide) fun s h5 s0 s1 f7 o7 => ?_
            have hk5 : h5 p = some (.dK (kvH f H)) := by rw [o7 p npa]; exact hk12
            refine ⟨s, rfl, ?_⟩
            by_cases hs : s ≤ 0
            · exact .inl ⟨hs, hN4 _ _ ⟨_, rfl, we.mono (by decide) (by decide), f7.mono (by omega), hk5⟩⟩
            · refine .inr ⟨by omega, abent_sp f7 (by omega) (by decide) (by decide) (by decide) we fun d' h6 wd f8 o8 => hN4 _ _ ⟨_, rfl, wd, f8.mono (by omega), by rw [o8 p npa]; exact hk5⟩⟩
          · rintro ρ' h' ⟨e, rfl, we, f13, hk13⟩
            refine seq_cut (fun ρ' h' => ∃ e, ρ' = [some (.lst (ns.map Dv.int)), some (.ref a), some d, some (rulesD t rs), some (.ref p), some (.lst (ys.map Dv.str)), v6, some (.int (j : Nat)), some (.str hd1), some e] ∧ Wq 1150 42 e ∧ Feed h' a (200000 * i + 600 + 30000 * j + 20802) ∧ h' p = some (.dK (kvH f H))) (fun N4 hN4 => ?_) ?_
            · simp [-gSeq, -wFor]
              refine adraw_sp f13 (by omega) (by decide) (by decide) fun s h5 s0 s1 f7 o7 => ?_
              have hk5 : h5 p = some (.dK (kvH f H)) := by rw [o7 p npa]; exact hk13
              refine ⟨by simp, ?_⟩
              by_cases hs : s = 0
              · subst hs
                rw [if_pos (by simp)]
                refine abent_sp f7 (by omega) (by decide) (by decide) (by decide) we fun d' h6 wd f8 o8 => hN4 _ _ ⟨_, rfl, wd, f8.mono (by omega), by rw [o8 p npa]; exact hk5⟩
              · rw [if_neg (by simpa using hs)]
                exact hN4 _ _ ⟨_, rfl, we.mono (by decide) (by decide), f7.mono (by omega), hk5⟩
            · rintro ρ' h' ⟨e, rfl, ⟨ws, rfl, wj, wL⟩, f14, hk14⟩
              have js := jl_sum ws
              have jle := tjoin_le ws
              have e1 : (Str.ofString " ").length = 1 := rfl
              have hmul : ws.length * (Str.ofString " ").length = ws.length := by rw [e1, Nat.mul_one]
              simp [-gSeq, -wFor]
              refine ⟨ws, rfl, by rw [hmul]; omega, ?_⟩
              have hts14 : Hts h' p ys := ⟨_, hk14, fun w => by
                rw [val_H]
                by_cases z : w ∈ f
                · rw [if_pos z, decide_eq_true ((hF.mem w).mpr ((hf w).mp z))]; rfl
                · rw [if_neg z, decide_eq_false fun y => z ((hf w).mpr ((hF.mem w).mp y))]; rfl⟩
              refine aright_sp U hF yl hts14 (by omega) fun h15 k15 => ?_
              simp
              exact hN3 _ _ ⟨_, _, _, _, rfl, (Feed.kpa f14 k15).mono (by omega), k15 _ _ hk14⟩
      · obtain ⟨v6, v7, v8, v9, rfl, f8, hk8⟩ := hI
        rw [rng_len] at f8
        refine hN _ _ ⟨_, _, _, _, _, _, _, _, rfl, f8.mono ?_⟩
        have := six_le (c := deqs (List.map Dv.str ys) [] = false) inferInstance
        omega
  · obtain ⟨v2, v3, v4, v5, v6, v7, v8, v9, rfl, f3⟩ := hI
    simp
end L73


namespace L73
open PySem PyProof.Rows L2 G3
def topS (i : Nat) : Stmt := PySem.Challenge.pw_allreads_k73_trees_refused.main.body.getD i (.Pass ⟨0, 0, 0, 0⟩)
def methS (i j : Nat) : Stmt := match topS i with | .ClassDef _ _ _ b _ _ _ _ _ _ _ => b.getD j (.Pass ⟨0, 0, 0, 0⟩) | _ => .Pass ⟨0, 0, 0, 0⟩
abbrev s_is_name : Stmt := topS 20
abbrev N_is_name : List Str := ["thing", "letter"]
theorem sc_is_name : FnScope N_is_name ["thing"] (defScope s_is_name) := ⟨rfl, rfl, rfl, by decide +kernel, rfl, by decide +kernel, by decide +kernel⟩
abbrev s_whole_names : Stmt := topS 22
abbrev N_whole_names : List Str := ["rules", "known", "found", "count", "head", "body", "word"]
theorem sc_whole_names : FnScope N_whole_names ["rules", "known"] (defScope s_whole_names) := ⟨rfl, rfl, rfl, by decide +kernel, rfl, by decide +kernel, by decide +kernel⟩
abbrev s_fruitful : Stmt := topS 23
abbrev N_fruitful : List Str := ["rules"]
theorem sc_fruitful : FnScope N_fruitful ["rules"] (defScope s_fruitful) := ⟨rfl, rfl, rfl, by decide +kernel, rfl, by decide +kernel, by decide +kernel⟩
abbrev lamP_fruitful : Arguments := match lamIn (defBody s_fruitful) with | some (p, _, _) => p | none => defArgs s_fruitful
abbrev lamB_fruitful : Expr := match lamIn (defBody s_fruitful) with | some (_, b, _) => b | none => .Constant .none 0 ⟨0, 0, 0, 0⟩
abbrev lamS_fruitful : Scope := match lamIn (defBody s_fruitful) with | some (_, _, s) => s | none => defScope s_fruitful
abbrev N_lam_fruitful : List Str := ["word"]
theorem sc_lam_fruitful : FnScope N_lam_fruitful ["word"] lamS_fruitful := ⟨rfl, rfl, rfl, by decide +kernel, rfl, by decide +kernel, by decide +kernel⟩
abbrev s_good_rows : Stmt := topS 24
abbrev N_good_rows : List Str := ["rules", "good", "found", "number", "head", "body", "word"]
theorem sc_good_rows : FnScope N_good_rows ["rules"] (defScope s_good_rows) := ⟨rfl, rfl, rfl, by decide +kernel, rfl, by decide +kernel, by decide +kernel⟩
abbrev s_Climb_begins : Stmt := methS 26 1
abbrev N_Climb_begins : List Str := ["self", "word", "head"]
theorem sc_Climb_begins : FnScope N_Climb_begins ["self", "word", "head"] (defScope s_Climb_begins) := ⟨rfl, rfl, rfl, by decide +kernel, rfl, by decide +kernel, by decide +kernel⟩
abbrev s_Climb_ends : Stmt := methS 26 3
abbrev N_Climb_ends : List Str := ["self", "number", "body", "kids"]
theorem sc_Climb_ends : FnScope N_Climb_ends ["self"] (defScope s_Climb_ends) := ⟨rfl, rfl, rfl, by decide +kernel, rfl, by decide +kernel, by decide +kernel⟩
abbrev s_Climb_takes_rule : Stmt := methS 26 2
abbrev N_Climb_takes_rule : List Str := ["self", "word", "number", "head", "body"]
theorem sc_Climb_takes_rule : FnScope N_Climb_takes_rule ["self", "word"] (defScope s_Climb_takes_rule) := ⟨rfl, rfl, rfl, by decide +kernel, rfl, by decide +kernel, by decide +kernel⟩
abbrev s_Climb_takes : Stmt := methS 26 4
abbrev N_Climb_takes : List Str := ["self", "word", "number", "body", "kids"]
theorem sc_Climb_takes : FnScope N_Climb_takes ["self", "word"] (defScope s_Climb_takes) := ⟨rfl, rfl, rfl, by decide +kernel, rfl, by decide +kernel, by decide +kernel⟩
abbrev s_Climb___init__ : Stmt := methS 26 0
abbrev N_Climb___init__ : List Str := ["self", "rules", "number", "head", "body"]
theorem sc_Climb___init__ : FnScope N_Climb___init__ ["self", "rules"] (defScope s_Climb___init__) := ⟨rfl, rfl, rfl, by decide +kernel, rfl, by decide +kernel, by decide +kernel⟩
abbrev s_read_tree : Stmt := topS 27
abbrev N_read_tree : List Str := ["rules", "line", "words", "climb", "at", "word"]
theorem sc_read_tree : FnScope N_read_tree ["rules", "line"] (defScope s_read_tree) := ⟨rfl, rfl, rfl, by decide +kernel, rfl, by decide +kernel, by decide +kernel⟩
abbrev s_l_amixed : Stmt := topS 29
abbrev N_l_amixed : List Str := ["_law_cell", "_law_at", "_law_one", "_law_two", "_law_three"]
theorem sc_l_amixed : FnScope N_l_amixed ["_law_cell", "_law_at"] (defScope s_l_amixed) := ⟨rfl, rfl, rfl, by decide +kernel, rfl, by decide +kernel, by decide +kernel⟩
abbrev s_l_aopen : Stmt := topS 30
abbrev N_l_aopen : List Str := ["_law_script"]
theorem sc_l_aopen : FnScope N_l_aopen ["_law_script"] (defScope s_l_aopen) := ⟨rfl, rfl, rfl, by decide +kernel, rfl, by decide +kernel, by decide +kernel⟩
abbrev s_l_adraw : Stmt := topS 31
abbrev N_l_adraw : List Str := ["_law_feed", "_law_often", "_law_at", "_law_cell", "_law_drawn"]
theorem sc_l_adraw : FnScope N_l_adraw ["_law_feed", "_law_often"] (defScope s_l_adraw) := ⟨rfl, rfl, rfl, by decide +kernel, rfl, by decide +kernel, by decide +kernel⟩
abbrev s_l_ais_name : Stmt := topS 32
abbrev N_l_ais_name : List Str := ["_law_word"]
theorem sc_l_ais_name : FnScope N_l_ais_name ["_law_word"] (defScope s_l_ais_name) := ⟨rfl, rfl, rfl, by decide +kernel, rfl, by decide +kernel, by decide +kernel⟩
abbrev s_l_akind : Stmt := topS 33
abbrev N_l_akind : List Str := ["_law_caught", "_law_kinds", "_law_words"]
theorem sc_l_akind : FnScope N_l_akind ["_law_caught"] (defScope s_l_akind) := ⟨rfl, rfl, rfl, by decide +kernel, rfl, by decide +kernel, by decide +kernel⟩
abbrev s_l_aword : Stmt := topS 34
abbrev N_l_aword : List Str := ["_law_feed", "_law_heads", "_law_others", "_law_often", "_law_stem", "_law_k", "_law_first"]
theorem sc_l_aword : FnScope N_l_aword ["_law_feed", "_law_heads", "_law_others", "_law_often"] (defScope s_l_aword) := ⟨rfl, rfl, rfl, by decide +kernel, rfl, by decide +kernel, by decide +kernel⟩
abbrev s_l_aall_signs : Stmt := topS 35
abbrev N_l_aall_signs : List Str := ["_law_feed", "_law_often", "_law_small", "_law_some", "_law_turn", "_law_alone", "_law_k"]
theorem sc_l_aall_signs : FnScope N_l_aall_signs ["_law_feed", "_law_often"] (defScope s_l_aall_signs) := ⟨rfl, rfl, rfl, by decide +kernel, rfl, by decide +kernel, by decide +kernel⟩
abbrev s_l_awide_rules : Stmt := topS 36
abbrev N_l_awide_rules : List Str := ["_law_feed", "_law_great", "_law_small", "_law_names", "_law_signs", "_law_rows", "_law_turn", "_law_head", "_law_body", "_law_k", "_law_some"]
theorem sc_l_awide_rules : FnScope N_l_awide_rules ["_law_feed"] (defScope s_l_awide_rules) := ⟨rfl, rfl, rfl, by decide +kernel, rfl, by decide +kernel, by decide +kernel⟩
abbrev s_l_atree_words : Stmt := topS 37
abbrev N_l_atree_words : List Str := ["_law_tree", "_law_found", "_law_kid"]
theorem sc_l_atree_words : FnScope N_l_atree_words ["_law_tree"] (defScope s_l_atree_words) := ⟨rfl, rfl, rfl, by decide +kernel, rfl, by decide +kernel, by decide +kernel⟩
abbrev s_l_aheights : Stmt := topS 38
abbrev N_l_aheights : List Str := ["_law_rules", "_law_known", "_law_turn", "_law_head", "_law_body", "_law_names", "_law_here", "_law_word"]
theorem sc_l_aheights : FnScope N_l_aheights ["_law_rules"] (defScope s_l_aheights) := ⟨rfl, rfl, rfl, by decide +kernel, rfl, by decide +kernel, by decide +kernel⟩
abbrev s_l_agood : Stmt := topS 39
abbrev N_l_agood : List Str := ["_law_rules", "_law_heights", "_law_head", "_law_found", "_law_number", "_law_row", "_law_names", "_law_word"]
theorem sc_l_agood : FnScope N_l_agood ["_law_rules", "_law_heights", "_law_head"] (defScope s_l_agood) := ⟨rfl, rfl, rfl, by decide +kernel, rfl, by decide +kernel, by decide +kernel⟩
abbrev s_l_ahigh : Stmt := topS 40
abbrev N_l_ahigh : List Str := ["_law_rules", "_law_heights", "_law_number", "_law_word"]
theorem sc_l_ahigh : FnScope N_l_ahigh ["_law_rules", "_law_heights", "_law_number"] (defScope s_l_ahigh) := ⟨rfl, rfl, rfl, by decide +kernel, rfl, by decide +kernel, by decide +kernel⟩
abbrev s_l_atree : Stmt := topS 41
abbrev N_l_atree : List Str := ["_law_feed", "_law_rules", "_law_heights", "_law_head", "_law_left", "_law_some", "_law_slim", "_law_low", "_law_least", "_law_number", "_law_kids", "_law_word"]
theorem sc_l_atree : FnScope N_l_atree ["_law_feed", "_law_rules", "_law_heights", "_law_head", "_law_left"] (defScope s_l_atree) := ⟨rfl, rfl, rfl, by decide +kernel, rfl, by decide +kernel, by decide +kernel⟩
abbrev s_l_asame : Stmt := topS 42
abbrev N_l_asame : List Str := ["_law_found", "_law_due", "_law_one", "_law_other"]
theorem sc_l_asame : FnScope N_l_asame ["_law_found", "_law_due"] (defScope s_l_asame) := ⟨rfl, rfl, rfl, by decide +kernel, rfl, by decide +kernel, by decide +kernel⟩
abbrev s_l_anumbered : Stmt := topS 43
abbrev N_l_anumbered : List Str := ["_law_act", "_law_some", "_law_caught", "_law_told", "e"]
theorem sc_l_anumbered : FnScope N_l_anumbered ["_law_act", "_law_some"] (defScope s_l_anumbered) := ⟨rfl, rfl, rfl, by decide +kernel, rfl, by decide +kernel, by decide +kernel⟩
abbrev s_l_ais_any_name : Stmt := topS 44
abbrev N_l_ais_any_name : List Str := ["_law_word", "_law_letter"]
theorem sc_l_ais_any_name : FnScope N_l_ais_any_name ["_law_word"] (defScope s_l_ais_any_name) := ⟨rfl, rfl, rfl, by decide +kernel, rfl, by decide +kernel, by decide +kernel⟩
abbrev s_l_aodd : Stmt := topS 45
abbrev N_l_aodd : List Str := ["_law_feed", "_law_words", "_law_some"]
theorem sc_l_aodd : FnScope N_l_aodd ["_law_feed", "_law_words"] (defScope s_l_aodd) := ⟨rfl, rfl, rfl, by decide +kernel, rfl, by decide +kernel, by decide +kernel⟩
abbrev s_l_asmeared : Stmt := topS 47
abbrev N_l_asmeared : List Str := ["_law_feed", "_law_word", "_law_at"]
theorem sc_l_asmeared : FnScope N_l_asmeared ["_law_feed", "_law_word"] (defScope s_l_asmeared) := ⟨rfl, rfl, rfl, by decide +kernel, rfl, by decide +kernel, by decide +kernel⟩
abbrev s_l_abent : Stmt := topS 46
abbrev N_l_abent : List Str := ["_law_feed", "_law_words", "_law_at", "_law_way", "_law_other", "_law_word"]
theorem sc_l_abent : FnScope N_l_abent ["_law_feed", "_law_words"] (defScope s_l_abent) := ⟨rfl, rfl, rfl, by decide +kernel, rfl, by decide +kernel, by decide +kernel⟩
abbrev s_l_adue : Stmt := topS 48
abbrev N_l_adue : List Str := ["_law_rules", "_law_heights", "_law_words", "_law_due", "_law_at", "_law_sort", "_law_what", "_law_some", "_law_word", "_law_number"]
theorem sc_l_adue : FnScope N_l_adue ["_law_rules", "_law_heights", "_law_words"] (defScope s_l_adue) := ⟨rfl, rfl, rfl, by decide +kernel, rfl, by decide +kernel, by decide +kernel⟩
abbrev s_l_aright : Stmt := topS 49
abbrev N_l_aright : List Str := ["_law_rules", "_law_heights", "_law_line", "_law_words", "_law_due", "_law_word", "_law_told"]
theorem sc_l_aright : FnScope N_l_aright ["_law_rules", "_law_heights", "_law_line"] (defScope s_l_aright) := ⟨rfl, rfl, rfl, by decide +kernel, rfl, by decide +kernel, by decide +kernel⟩
abbrev s_law : Stmt := topS 50
abbrev N_law : List Str := ["_law_script", "_law_feed", "_law_turn", "_law_rules", "_law_heights", "_law_heads", "_law_line", "_law_again", "_law_head", "_law_words"]
theorem sc_law : FnScope N_law ["_law_script"] (defScope s_law) := ⟨rfl, rfl, rfl, by decide +kernel, rfl, by decide +kernel, by decide +kernel⟩
abbrev s_NoText_i : Stmt := methS 14 0
theorem sc_NoText_i : FnScope ["self", "at"] ["self", "at"] (defScope s_NoText_i) := ⟨rfl, rfl, rfl, by decide +kernel, rfl, by decide +kernel, by decide +kernel⟩
structure Txt (K : PySem.W.Frag) (mg : Str → Option Value) where
  f_is_name : Addr
  d_is_name : FuncData
  F_is_name : Fun K "is_name" "is_name" s_is_name f_is_name d_is_name
  b_is_name : Binds K d_is_name ["thing"] []
  g_is_name : mg "is_name" = some (.ref f_is_name)
  f_whole_names : Addr
  d_whole_names : FuncData
  F_whole_names : Fun K "whole_names" "whole_names" s_whole_names f_whole_names d_whole_names
  b_whole_names : Binds K d_whole_names ["rules", "known"] []
  g_whole_names : mg "whole_names" = some (.ref f_whole_names)
  f_fruitful : Addr
  d_fruitful : FuncData
  F_fruitful : Fun K "fruitful" "fruitful" s_fruitful f_fruitful d_fruitful
  b_fruitful : Binds K d_fruitful ["rules"] []
  g_fruitful : mg "fruitful" = some (.ref f_fruitful)
  f_good_rows : Addr
  d_good_rows : FuncData
  F_good_rows : Fun K "good_rows" "good_rows" s_good_rows f_good_rows d_good_rows
  b_good_rows : Binds K d_good_rows ["rules"] []
  g_good_rows : mg "good_rows" = some (.ref f_good_rows)
  f_Climb_begins : Addr
  d_Climb_begins : FuncData
  F_Climb_begins : Fun K "begins" "Climb.begins" s_Climb_begins f_Climb_begins d_Climb_begins
  b_Climb_begins : Binds K d_Climb_begins ["self", "word", "head"] []
  f_Climb_ends : Addr
  d_Climb_ends : FuncData
  F_Climb_ends : Fun K "ends" "Climb.ends" s_Climb_ends f_Climb_ends d_Climb_ends
  b_Climb_ends : Binds K d_Climb_ends ["self"] []
  f_Climb_takes_rule : Addr
  d_Climb_takes_rule : FuncData
  F_Climb_takes_rule : Fun K "takes_rule" "Climb.takes_rule" s_Climb_takes_rule f_Climb_takes_rule d_Climb_takes_rule
  b_Climb_takes_rule : Binds K d_Climb_takes_rule ["self", "word"] []
  f_Climb_takes : Addr
  d_Climb_takes : FuncData
  F_Climb_takes : Fun K "takes" "Climb.takes" s_Climb_takes f_Climb_takes d_Climb_takes
  b_Climb_takes : Binds K d_Climb_takes ["self", "word"] []
  f_Climb___init__ : Addr
  d_Climb___init__ : FuncData
  F_Climb___init__ : Fun K "__init__" "Climb.__init__" s_Climb___init__ f_Climb___init__ d_Climb___init__
  b_Climb___init__ : Binds K d_Climb___init__ ["self", "rules"] []
  f_read_tree : Addr
  d_read_tree : FuncData
  F_read_tree : Fun K "read_tree" "read_tree" s_read_tree f_read_tree d_read_tree
  b_read_tree : Binds K d_read_tree ["rules", "line"] []
  g_read_tree : mg "read_tree" = some (.ref f_read_tree)
  f_l_amixed : Addr
  d_l_amixed : FuncData
  F_l_amixed : Fun K "_law_amixed" "_law_amixed" s_l_amixed f_l_amixed d_l_amixed
  b_l_amixed : Binds K d_l_amixed ["_law_cell", "_law_at"] []
  g_l_amixed : mg "_law_amixed" = some (.ref f_l_amixed)
  f_l_aopen : Addr
  d_l_aopen : FuncData
  F_l_aopen : Fun K "_law_aopen" "_law_aopen" s_l_aopen f_l_aopen d_l_aopen
  b_l_aopen : Binds K d_l_aopen ["_law_script"] []
  g_l_aopen : mg "_law_aopen" = some (.ref f_l_aopen)
  f_l_adraw : Addr
  d_l_adraw : FuncData
  F_l_adraw : Fun K "_law_adraw" "_law_adraw" s_l_adraw f_l_adraw d_l_adraw
  b_l_adraw : Binds K d_l_adraw ["_law_feed", "_law_often"] []
  g_l_adraw : mg "_law_adraw" = some (.ref f_l_adraw)
  f_l_ais_name : Addr
  d_l_ais_name : FuncData
  F_l_ais_name : Fun K "_law_ais_name" "_law_ais_name" s_l_ais_name f_l_ais_name d_l_ais_name
  b_l_ais_name : Binds K d_l_ais_name ["_law_word"] []
  g_l_ais_name : mg "_law_ais_name" = some (.ref f_l_ais_name)
  f_l_akind : Addr
  d_l_akind : FuncData
  F_l_akind : Fun K "_law_akind" "_law_akind" s_l_akind f_l_akind d_l_akind
  b_l_akind : Binds K d_l_akind ["_law_caught"] []
  g_l_akind : mg "_law_akind" = some (.ref f_l_akind)
  f_l_aword : Addr
  d_l_aword : FuncData
  F_l_aword : Fun K "_law_aword" "_law_aword" s_l_aword f_l_aword d_l_aword
  b_l_aword : Binds K d_l_aword ["_law_feed", "_law_heads", "_law_others", "_law_often"] []
  g_l_aword : mg "_law_aword" = some (.ref f_l_aword)
  f_l_aall_signs : Addr
  d_l_aall_signs : FuncData
  F_l_aall_signs : Fun K "_law_aall_signs" "_law_aall_signs" s_l_aall_signs f_l_aall_signs d_l_aall_signs
  b_l_aall_signs : Binds K d_l_aall_signs ["_law_feed", "_law_often"] []
  g_l_aall_signs : mg "_law_aall_signs" = some (.ref f_l_aall_signs)
  f_l_awide_rules : Addr
  d_l_awide_rules : FuncData
  F_l_awide_rules : Fun K "_law_awide_rules" "_law_awide_rules" s_l_awide_rules f_l_awide_rules d_l_awide_rules
  b_l_awide_rules : Binds K d_l_awide_rules ["_law_feed"] []
  g_l_awide_rules : mg "_law_awide_rules" = some (.ref f_l_awide_rules)
  f_l_atree_words : Addr
  d_l_atree_words : FuncData
  F_l_atree_words : Fun K "_law_atree_words" "_law_atree_words" s_l_atree_words f_l_atree_words d_l_atree_words
  b_l_atree_words : Binds K d_l_atree_words ["_law_tree"] []
  g_l_atree_words : mg "_law_atree_words" = some (.ref f_l_atree_words)
  f_l_aheights : Addr
  d_l_aheights : FuncData
  F_l_aheights : Fun K "_law_aheights" "_law_aheights" s_l_aheights f_l_aheights d_l_aheights
  b_l_aheights : Binds K d_l_aheights ["_law_rules"] []
  g_l_aheights : mg "_law_aheights" = some (.ref f_l_aheights)
  f_l_agood : Addr
  d_l_agood : FuncData
  F_l_agood : Fun K "_law_agood" "_law_agood" s_l_agood f_l_agood d_l_agood
  b_l_agood : Binds K d_l_agood ["_law_rules", "_law_heights", "_law_head"] []
  g_l_agood : mg "_law_agood" = some (.ref f_l_agood)
  f_l_ahigh : Addr
  d_l_ahigh : FuncData
  F_l_ahigh : Fun K "_law_ahigh" "_law_ahigh" s_l_ahigh f_l_ahigh d_l_ahigh
  b_l_ahigh : Binds K d_l_ahigh ["_law_rules", "_law_heights", "_law_number"] []
  g_l_ahigh : mg "_law_ahigh" = some (.ref f_l_ahigh)
  f_l_atree : Addr
  d_l_atree : FuncData
  F_l_atree : Fun K "_law_atree" "_law_atree" s_l_atree f_l_atree d_l_atree
  b_l_atree : Binds K d_l_atree ["_law_feed", "_law_rules", "_law_heights", "_law_head", "_law_left"] []
  g_l_atree : mg "_law_atree" = some (.ref f_l_atree)
  f_l_asame : Addr
  d_l_asame : FuncData
  F_l_asame : Fun K "_law_asame" "_law_asame" s_l_asame f_l_asame d_l_asame
  b_l_asame : Binds K d_l_asame ["_law_found", "_law_due"] []
  g_l_asame : mg "_law_asame" = some (.ref f_l_asame)
  f_l_anumbered : Addr
  d_l_anumbered : FuncData
  F_l_anumbered : Fun K "_law_anumbered" "_law_anumbered" s_l_anumbered f_l_anumbered d_l_anumbered
  b_l_anumbered : Binds K d_l_anumbered ["_law_act", "_law_some"] []
  g_l_anumbered : mg "_law_anumbered" = some (.ref f_l_anumbered)
  f_l_ais_any_name : Addr
  d_l_ais_any_name : FuncData
  F_l_ais_any_name : Fun K "_law_ais_any_name" "_law_ais_any_name" s_l_ais_any_name f_l_ais_any_name d_l_ais_any_name
  b_l_ais_any_name : Binds K d_l_ais_any_name ["_law_word"] []
  g_l_ais_any_name : mg "_law_ais_any_name" = some (.ref f_l_ais_any_name)
  f_l_aodd : Addr
  d_l_aodd : FuncData
  F_l_aodd : Fun K "_law_aodd" "_law_aodd" s_l_aodd f_l_aodd d_l_aodd
  b_l_aodd : Binds K d_l_aodd ["_law_feed", "_law_words"] []
  g_l_aodd : mg "_law_aodd" = some (.ref f_l_aodd)
  f_l_asmeared : Addr
  d_l_asmeared : FuncData
  F_l_asmeared : Fun K "_law_asmeared" "_law_asmeared" s_l_asmeared f_l_asmeared d_l_asmeared
  b_l_asmeared : Binds K d_l_asmeared ["_law_feed", "_law_word"] []
  g_l_asmeared : mg "_law_asmeared" = some (.ref f_l_asmeared)
  f_l_abent : Addr
  d_l_abent : FuncData
  F_l_abent : Fun K "_law_abent" "_law_abent" s_l_abent f_l_abent d_l_abent
  b_l_abent : Binds K d_l_abent ["_law_feed", "_law_words"] []
  g_l_abent : mg "_law_abent" = some (.ref f_l_abent)
  f_l_adue : Addr
  d_l_adue : FuncData
  F_l_adue : Fun K "_law_adue" "_law_adue" s_l_adue f_l_adue d_l_adue
  b_l_adue : Binds K d_l_adue ["_law_rules", "_law_heights", "_law_words"] []
  g_l_adue : mg "_law_adue" = some (.ref f_l_adue)
  f_l_aright : Addr
  d_l_aright : FuncData
  F_l_aright : Fun K "_law_aright" "_law_aright" s_l_aright f_l_aright d_l_aright
  b_l_aright : Binds K d_l_aright ["_law_rules", "_law_heights", "_law_line"] []
  g_l_aright : mg "_law_aright" = some (.ref f_l_aright)
  f_law : Addr
  d_law : FuncData
  F_law : Fun K "law" "law" s_law f_law d_law
  b_law : Binds K d_law ["_law_script"] []
  g_law : mg "law" = some (.ref f_law)
  ins : insB K itb = true
  cls : clsB K tbl = true
  C_Climb : Addr
  c_Climb : mg "Climb" = some (.ref C_Climb)
  a_Climb : clsAt K "Climb" C_Climb
  C_Endless : Addr
  c_Endless : mg "Endless" = some (.ref C_Endless)
  a_Endless : clsAt K "Endless" C_Endless
  C_NoBack : Addr
  c_NoBack : mg "NoBack" = some (.ref C_NoBack)
  a_NoBack : clsAt K "NoBack" C_NoBack
  C_NoBatch : Addr
  c_NoBatch : mg "NoBatch" = some (.ref C_NoBatch)
  a_NoBatch : clsAt K "NoBatch" C_NoBatch
  C_NoCut : Addr
  c_NoCut : mg "NoCut" = some (.ref C_NoCut)
  a_NoCut : clsAt K "NoCut" C_NoCut
  C_NoForbid : Addr
  c_NoForbid : mg "NoForbid" = some (.ref C_NoForbid)
  a_NoForbid : clsAt K "NoForbid" C_NoForbid
  C_NoMark : Addr
  c_NoMark : mg "NoMark" = some (.ref C_NoMark)
  a_NoMark : clsAt K "NoMark" C_NoMark
  C_NoPiece : Addr
  c_NoPiece : mg "NoPiece" = some (.ref C_NoPiece)
  a_NoPiece : clsAt K "NoPiece" C_NoPiece
  C_NoPlace : Addr
  c_NoPlace : mg "NoPlace" = some (.ref C_NoPlace)
  a_NoPlace : clsAt K "NoPlace" C_NoPlace
  C_NoRow : Addr
  c_NoRow : mg "NoRow" = some (.ref C_NoRow)
  a_NoRow : clsAt K "NoRow" C_NoRow
  C_NoSign : Addr
  c_NoSign : mg "NoSign" = some (.ref C_NoSign)
  a_NoSign : clsAt K "NoSign" C_NoSign
  C_NoStretch : Addr
  c_NoStretch : mg "NoStretch" = some (.ref C_NoStretch)
  a_NoStretch : clsAt K "NoStretch" C_NoStretch
  C_NoText : Addr
  c_NoText : mg "NoText" = some (.ref C_NoText)
  a_NoText : clsAt K "NoText" C_NoText
  C_ReadError : Addr
  c_ReadError : mg "ReadError" = some (.ref C_ReadError)
  a_ReadError : clsAt K "ReadError" C_ReadError
  C_TooLong : Addr
  c_TooLong : mg "TooLong" = some (.ref C_TooLong)
  a_TooLong : clsAt K "TooLong" C_TooLong
  m_Climb_begins : MethK K "Climb" "begins" C_Climb f_Climb_begins
  m_Climb_ends : MethK K "Climb" "ends" C_Climb f_Climb_ends
  m_Climb_takes_rule : MethK K "Climb" "takes_rule" C_Climb f_Climb_takes_rule
  m_Climb_takes : MethK K "Climb" "takes" C_Climb f_Climb_takes
  mk_Climb : Mk K C_Climb f_Climb___init__
  f_NoText_i : Addr
  d_NoText_i : FuncData
  F_NoText_i : Fun K "__init__" "NoText.__init__" s_NoText_i f_NoText_i d_NoText_i
  b_NoText_i : Binds K d_NoText_i ["self", "at"] []
  o_NoText : OexC K C_NoText
  i_NoText : PySem.W.findIn K (.ref C_NoText) "__init__" = some (some (.ref f_NoText_i))
  t_NoText : PySem.W.typeIn K (.ref f_NoText_i) = some (.type "function")
  no_NoText : PySem.W.findIn K (.ref C_NoText) "at" = some none
  r1_NoText : PySem.W.specialIn K (.ref C_ReadError) "__getattribute__" = some (some (.builtin "type.__getattribute__"))
  r2_NoText : PySem.W.readsIn K C_ReadError (.type "type") = true
  r3_NoText : PySem.W.findCls K (.ref C_ReadError) (.type "type") "__init__" = some (.val (.builtin "ValueError.__init__"))
  v_fruitful : clsAt K "fruitful" f_fruitful
  v_read_tree : clsAt K "read_tree" f_read_tree
  y_fruitful : lamDB K "fruitful" f_fruitful = true
  t_FIGURES : Tok
  c_FIGURES : mg "FIGURES" = some (.str k_FIGURES t_FIGURES)
  t_GREAT : Tok
  c_GREAT : mg "GREAT" = some (.str k_GREAT t_GREAT)
  t_MOST_LETTERS : Tok
  c_MOST_LETTERS : mg "MOST_LETTERS" = some (.int 6 t_MOST_LETTERS)
  t_SMALL : Tok
  c_SMALL : mg "SMALL" = some (.str k_SMALL t_SMALL)
  n_ValueError : mg "ValueError" = none
  n_all : mg "all" = none
  n_bool : mg "bool" = none
  n_enumerate : mg "enumerate" = none
  n_int : mg "int" = none
  n_isinstance : mg "isinstance" = none
  n_len : mg "len" = none
  n_list : mg "list" = none
  n_max : mg "max" = none
  n_min : mg "min" = none
  n_range : mg "range" = none
  n_sorted : mg "sorted" = none
  n_str : mg "str" = none
  n_tuple : mg "tuple" = none
  n_zip : mg "zip" = none
section
variable {P : Program} {w : World} {K : PySem.W.Frag} {mg : Str → Option Value} {base : Heap} (T : Txt K mg) (HB : ∀ t ∈ lamTabs K, LamX.TabB base mg t.2.2.1 t.2.2.2)
include T HB
theorem lamd_fruitful : LamD K mg base "fruitful" T.d_fruitful lamP_fruitful lamB_fruitful lamS_fruitful := lamD_of HB T.F_fruitful T.v_fruitful T.y_fruitful rfl
theorem ok_NoText_i : FnOk P w K mg base CX0 1 T.f_NoText_i T.d_NoText_i ["self", "at"] (spAt T.C_NoText) := by
  refine T.F_NoText_i.ok sc_NoText_i len_ini (fun cdv A outer s H vs Q E hr h => ⟨tIni K "no such text", ?_, pure_ini _ T.o_NoText T.no_NoText vs H Q E h⟩)
  exact pss_cons (ps_expr (pe_cinit (by rfl) T.c_ReadError T.r1_NoText T.r2_NoText T.r3_NoText (pa_cons (pe_var (i := 0) (by rfl) (Or.inl rfl)) (pa_cons pe_str pa_nil)))) (pss_one (ps_ost (pe_var (i := 0) (by rfl) (Or.inl rfl)) (pe_var (i := 1) (by rfl) (Or.inl rfl))))
theorem ok_is_name : FnG P w K mg base 1 T.f_is_name T.d_is_name ["thing"] sp_is_name := by
  refine fn_g T.F_is_name sc_is_name len_is_name (g := W_is_name) (fun cdv A outer s H hr hgd => ?_) w_is_name
  have hu := hr.units
  exact (b_cons (s_if (t_w (t_or (t_not (t_val (e_callB c_isi (by rfl) T.n_isinstance (by decide +kernel) (a_cons (e_var 0) (a_cons (e_gTy (by rfl) T.n_str (by decide +kernel)) a_nil))))) (t_or1 (t_not (t_chain o_lt o_le e_int (e_callB c_len (by rfl) T.n_len (by decide +kernel) (a_cons (e_var 0) a_nil)) (e_gInt (by rfl) T.c_MOST_LETTERS)))))) (b_one (s_ret e_bl)) b_nil)
  (b_one (s_ret (e_and (e_cmp (o_in hu) (e_ix (e_var 0) e_int) (e_gStr (by rfl) T.c_GREAT) (by rfl)) (e_one (e_callB (c_all rfl) (by rfl) T.n_all (by decide +kernel) (a_cons (e_lc [("letter", 1)] rfl sc_is_name.nd (i_seq (e_sl (e_var 0) (p_some e_int) p_none)) (blkOk_by (own := [("letter", 1)]) (N := N_is_name) (sc := defScope s_is_name) (by decide +kernel)) (fun _ _ _ _ _ => (g_name [1] 1 sc_is_name.nd)) (fun _ _ _ _ _ => ts_nil) (fun _ _ _ _ _ => (e_cmp (o_in hu) (e_var 1) (e_op o_add (e_gStr (by rfl) T.c_SMALL) (e_gStr (by rfl) T.c_FIGURES)) (by rfl)))) a_nil)))))))
theorem okl_fruitful : LamG P w K mg base 2 "fruitful" 1 sp_lam_fruitful := by
  have G_is_name := ok_is_name (P := P) (w := w) (base := base) T HB
  refine lam_g T.F_fruitful T.v_fruitful (p := lamP_fruitful) (b := lamB_fruitful) (sc := lamS_fruitful) rfl sc_lam_fruitful (fun ds h Q z => z.1) (g := W_lam_fruitful) (fun q pm cv ctv us hl => match us, hl with | [_], _ => rfl) (fun cdv A outer s H f hr hgd => ?_) (fun ds h Q z => z.2)
  have hu := hr.units
  exact (e_not (e_call (G_is_name) (hr.mono (by decide)) hgd (by rfl) T.g_is_name T.F_is_name.kp T.b_is_name (a_cons (e_var 0) a_nil)))
theorem lamsok_whole_names : LamsAt P w K mg base 2 lams_whole_names := (lamsAt_cons ((okl_fruitful T HB).mono (by decide)) lamsAt_nil)
theorem ok_whole_names : FnG P w K mg base 3 T.f_whole_names T.d_whole_names ["rules", "known"] sp_whole_names := by
  have HL := lamsok_whole_names (P := P) (w := w) (base := base) T HB
  refine fn_g T.F_whole_names sc_whole_names len_whole_names (g := W_whole_names) (fun cdv A outer s H hr hgd => ?_) w_whole_names
  have hu := hr.units
  exact (b_cons (s_set 2 (e_mlst a_nil) sc_whole_names.nd)
  (b_cons (s_set 3 (e_un u_neg e_int) sc_whole_names.nd)
  (b_cons (s_while PassesOwn.never (t_cmp o_lt (e_var 3) (e_callB c_len (by rfl) T.n_len (by decide +kernel) (a_cons (e_var 2) a_nil)) (nomark _))
  (b_cons (s_set 3 (e_callB c_len (by rfl) T.n_len (by decide +kernel) (a_cons (e_var 2) a_nil)) sc_whole_names.nd)
  (b_one (s_for PassesOwn.never rfl (i_seq (e_ix (e_var 0) e_int)) (g_tup rfl (gs_cons (g_name [4, 5] 4 sc_whole_names.nd) (gs_cons (g_name [4, 5] 5 sc_whole_names.nd) (gs_nil [4, 5]))))
  (b_one (s_if (t_w (t_and (t_cmp (o_notIn hu) (e_var 4) (e_var 2) (by rfl)) (t_and1 (t_val (e_callB (c_all rfl) (by rfl) T.n_all (by decide +kernel) (a_cons (e_lc [("word", 6)] rfl sc_whole_names.nd (i_seq (e_var 5)) (blkOk_by (own := [("word", 6)]) (N := N_whole_names) (sc := defScope s_whole_names) (by decide +kernel)) (fun _ _ _ _ _ => (g_name [6] 6 sc_whole_names.nd)) (fun _ _ _ _ _ => ts_nil) (fun _ _ _ _ _ => (e_or (e_cmp (o_in hu) (e_var 6) (e_var 2) (by rfl)) (e_one (e_callLam 1 HL (hr.mono (by decide)) hgd (a_cons (e_var 6) a_nil)))))) a_nil)))))) (b_one (s_expr (e_bm PySem.F.plainAttrs_list PySem.F.slot_list_append PySem.F.type_list_append m_append (e_var 2) (a_cons (e_var 4) a_nil)))) b_nil))))))
  (b_one (s_ret (e_callB c_msorted (by rfl) T.n_sorted (by decide +kernel) (a_cons (e_var 2) a_nil)))))))
theorem ok_fruitful : FnG P w K mg base 4 T.f_fruitful T.d_fruitful ["rules"] sp_fruitful := by
  have G_whole_names := ok_whole_names (P := P) (w := w) (base := base) T HB
  refine fn_gL T.F_fruitful sc_fruitful len_fruitful (g := W_fruitful) (fun cdv A outer s H hcd hr hgd => ?_) w_fruitful
  have hu := hr.units
  exact (b_one (s_ret (e_call (G_whole_names) (hr.mono (by decide)) hgd (by rfl) T.g_whole_names T.F_whole_names.kp T.b_whole_names (a_cons (e_var 0) (a_cons (e_lam (lamd_fruitful T HB) hcd) a_nil)))))
theorem ok_good_rows : FnG P w K mg base 5 T.f_good_rows T.d_good_rows ["rules"] sp_good_rows := by
  have G_is_name := ok_is_name (P := P) (w := w) (base := base) T HB
  have G_fruitful := ok_fruitful (P := P) (w := w) (base := base) T HB
  refine fn_g T.F_good_rows sc_good_rows len_good_rows (g := W_good_rows) (fun cdv A outer s H hr hgd => ?_) w_good_rows
  have hu := hr.units
  exact (b_cons (s_set 1 (e_call (G_fruitful) (hr.mono (by decide)) hgd (by rfl) T.g_fruitful T.F_fruitful.kp T.b_fruitful (a_cons (e_var 0) a_nil)) sc_good_rows.nd)
  (b_cons (s_set 2 (e_mlst a_nil) sc_good_rows.nd)
  (b_cons (s_for PassesOwn.never rfl (i_enum (by rfl) T.n_enumerate (a_cons (e_ix (e_var 0) e_int) a_nil)) (g_tup rfl (gs_cons (g_name [3, 4, 5] 3 sc_good_rows.nd) (gs_cons (g_tup rfl (gs_cons (g_name [3, 4, 5] 4 sc_good_rows.nd) (gs_cons (g_name [3, 4, 5] 5 sc_good_rows.nd) (gs_nil [3, 4, 5])))) (gs_nil [3, 4, 5]))))
  (b_one (s_if (t_val (e_callB (c_all rfl) (by rfl) T.n_all (by decide +kernel) (a_cons (e_lc [("word", 6)] rfl sc_good_rows.nd (i_seq (e_op o_add (e_tup (a_cons (e_var 4) a_nil)) (e_var 5))) (blkOk_by (own := [("word", 6)]) (N := N_good_rows) (sc := defScope s_good_rows) (by decide +kernel)) (fun _ _ _ _ _ => (g_name [6] 6 sc_good_rows.nd)) (fun _ _ _ _ _ => ts_nil) (fun _ _ _ _ _ => (e_or (e_not (e_call (G_is_name) (hr.mono (by decide)) hgd (by rfl) T.g_is_name T.F_is_name.kp T.b_is_name (a_cons (e_var 6) a_nil))) (e_one (e_cmp (o_in hu) (e_var 6) (e_var 1) (by rfl)))))) a_nil))) (b_one (s_expr (e_bm PySem.F.plainAttrs_list PySem.F.slot_list_append PySem.F.type_list_append m_append (e_var 2) (a_cons (e_tup (a_cons (e_var 3) (a_cons (e_var 4) (a_cons (e_var 5) a_nil)))) a_nil)))) b_nil)))
  (b_one (s_ret (e_frz (e_var 2)))))))
theorem ok_Climb_begins : FnG P w K mg base 1 T.f_Climb_begins T.d_Climb_begins ["self", "word", "head"] sp_Climb_begins := by
  refine fn_g T.F_Climb_begins sc_Climb_begins len_Climb_begins (g := W_Climb_begins) (fun cdv A outer s H hr hgd => ?_) w_Climb_begins
  have hu := hr.units
  exact (b_cons (s_fld T.ins (e_var 0) (e_var 2))
  (b_cons (s_fld T.ins (e_var 0) (e_and (e_cmp (o_eq hu) (e_var 1) e_str (nomark _)) (e_one (e_cmp (o_neDE hu) (e_fld T.ins (e_var 0)) e_dnewK (nomark _)))))
  (b_one (s_ret (e_fld T.ins (e_var 0))))))
theorem ok_Climb_ends : FnG P w K mg base 1 T.f_Climb_ends T.d_Climb_ends ["self"] sp_Climb_ends := by
  refine fn_g T.F_Climb_ends sc_Climb_ends len_Climb_ends (g := W_Climb_ends) (fun cdv A outer s H hr hgd => ?_) w_Climb_ends
  have hu := hr.units
  exact (b_cons (s_asg (e_bm0 PySem.F.plainAttrs_list PySem.F.slot_list_pop PySem.F.type_list_pop m_pop (e_fld T.ins (e_var 0))) (g_tup rfl (gs_cons (g_name [1, 2, 3] 1 sc_Climb_ends.nd) (gs_cons (g_name [1, 2, 3] 2 sc_Climb_ends.nd) (gs_cons (g_name [1, 2, 3] 3 sc_Climb_ends.nd) (gs_nil [1, 2, 3]))))))
  (b_cons (s_if (t_cmp (o_eqNil hu) (e_fld T.ins (e_var 0)) (e_lst a_nil) (nomark _)) (b_one (s_fld T.ins (e_var 0) (e_tup (a_cons (e_var 1) (a_cons (e_callTy c_tuple (by rfl) T.n_tuple (by decide +kernel) (a_cons (e_var 3) a_nil)) a_nil))))) (b_one (s_expr (e_bm PySem.F.plainAttrs_list PySem.F.slot_list_append PySem.F.type_list_append m_append (e_ix (e_ix (e_fld T.ins (e_var 0)) (e_un u_neg e_int)) e_int) (a_cons (e_tup (a_cons (e_var 1) (a_cons (e_callTy c_tuple (by rfl) T.n_tuple (by decide +kernel) (a_cons (e_var 3) a_nil)) a_nil))) a_nil)))))
  (b_one (s_ret e_bl))))
theorem ok_Climb_takes_rule : FnG P w K mg base 1 T.f_Climb_takes_rule T.d_Climb_takes_rule ["self", "word"] sp_Climb_takes_rule := by
  refine fn_g T.F_Climb_takes_rule sc_Climb_takes_rule len_Climb_takes_rule (g := W_Climb_takes_rule) (fun cdv A outer s H hr hgd => ?_) w_Climb_takes_rule
  have hu := hr.units
  exact (b_cons (s_if (t_w (t_or (t_dnotin hu (e_var 1) (e_fld T.ins (e_var 0))) (t_or1 (t_cmp (o_notIn hu) (e_fld T.ins (e_var 0)) (e_tup (a_cons e_non (a_cons (e_ix (e_dget hu (e_fld T.ins (e_var 0)) (e_var 1)) e_int) a_nil))) (by rfl))))) (b_one (s_ret e_bl)) b_nil)
  (b_cons (s_asg (e_dget hu (e_fld T.ins (e_var 0)) (e_var 1)) (g_tup rfl (gs_cons (g_name [2, 3, 4] 2 sc_Climb_takes_rule.nd) (gs_cons (g_name [2, 3, 4] 3 sc_Climb_takes_rule.nd) (gs_cons (g_name [2, 3, 4] 4 sc_Climb_takes_rule.nd) (gs_nil [2, 3, 4]))))))
  (b_cons (s_expr (e_bm PySem.F.plainAttrs_list PySem.F.slot_list_append PySem.F.type_list_append m_append (e_fld T.ins (e_var 0)) (a_cons (e_tup (a_cons (e_var 2) (a_cons (e_var 4) (a_cons (e_mlst a_nil) a_nil)))) a_nil)))
  (b_cons (s_fld T.ins (e_var 0) e_bl)
  (b_one (s_ret e_bl))))))
theorem ok_Climb_takes : FnG P w K mg base 2 T.f_Climb_takes T.d_Climb_takes ["self", "word"] sp_Climb_takes := by
  have G_is_name := ok_is_name (P := P) (w := w) (base := base) T HB
  have G_Climb_begins := ok_Climb_begins (P := P) (w := w) (base := base) T HB
  have G_Climb_ends := ok_Climb_ends (P := P) (w := w) (base := base) T HB
  have G_Climb_takes_rule := ok_Climb_takes_rule (P := P) (w := w) (base := base) T HB
  refine fn_g T.F_Climb_takes sc_Climb_takes len_Climb_takes (g := W_Climb_takes) (fun cdv A outer s H hr hgd => ?_) w_Climb_takes
  have hu := hr.units
  exact (b_cons (s_if (t_cmp o_isNot (e_fld T.ins (e_var 0)) e_non (nomark _)) (b_one (s_ret e_bl)) b_nil)
  (b_cons (s_if (t_val (e_fld T.ins (e_var 0))) (b_one (s_ret (e_meth (G_Climb_takes_rule) (hr.mono (by decide)) hgd T.m_Climb_takes_rule T.b_Climb_takes_rule (e_var 0) (a_cons (e_var 1) a_nil)))) b_nil)
  (b_cons (s_if (t_cmp (o_eqNil hu) (e_fld T.ins (e_var 0)) (e_lst a_nil) (nomark _)) (b_one (s_ret (e_meth (G_Climb_begins) (hr.mono (by decide)) hgd T.m_Climb_begins T.b_Climb_begins (e_var 0) (a_cons (e_var 1) (a_cons e_non a_nil))))) b_nil)
  (b_cons (s_asg (e_ix (e_fld T.ins (e_var 0)) (e_un u_neg e_int)) (g_tup rfl (gs_cons (g_name [2, 3, 4] 2 sc_Climb_takes.nd) (gs_cons (g_name [2, 3, 4] 3 sc_Climb_takes.nd) (gs_cons (g_name [2, 3, 4] 4 sc_Climb_takes.nd) (gs_nil [2, 3, 4]))))))
  (b_cons (s_if (t_cmp (o_eq hu) (e_callB c_len (by rfl) T.n_len (by decide +kernel) (a_cons (e_var 4) a_nil)) (e_callB c_len (by rfl) T.n_len (by decide +kernel) (a_cons (e_var 3) a_nil)) (nomark _)) (b_one (s_ret (e_and (e_cmp (o_eq hu) (e_var 1) e_str (nomark _)) (e_one (e_meth0 (G_Climb_ends) (hr.mono (by decide)) hgd T.m_Climb_ends T.b_Climb_ends (e_var 0)))))) b_nil)
  (b_cons (s_if (t_val (e_call (G_is_name) (hr.mono (by decide)) hgd (by rfl) T.g_is_name T.F_is_name.kp T.b_is_name (a_cons (e_ix (e_var 3) (e_callB c_len (by rfl) T.n_len (by decide +kernel) (a_cons (e_var 4) a_nil))) a_nil))) (b_one (s_ret (e_meth (G_Climb_begins) (hr.mono (by decide)) hgd T.m_Climb_begins T.b_Climb_begins (e_var 0) (a_cons (e_var 1) (a_cons (e_ix (e_var 3) (e_callB c_len (by rfl) T.n_len (by decide +kernel) (a_cons (e_var 4) a_nil))) a_nil))))) b_nil)
  (b_cons (s_expr (e_bm PySem.F.plainAttrs_list PySem.F.slot_list_append PySem.F.type_list_append m_append (e_var 4) (a_cons (e_var 1) a_nil)))
  (b_one (s_ret (e_cmp (o_eq hu) (e_var 1) (e_ix (e_var 3) (e_op o_sub (e_callB c_len (by rfl) T.n_len (by decide +kernel) (a_cons (e_var 4) a_nil)) e_int)) (nomark _)))))))))))
theorem ok_Climb___init__ : FnG P w K mg base 6 T.f_Climb___init__ T.d_Climb___init__ ["self", "rules"] sp_Climb___init__ := by
  have G_good_rows := ok_good_rows (P := P) (w := w) (base := base) T HB
  refine fn_g T.F_Climb___init__ sc_Climb___init__ len_Climb___init__ (g := W_Climb___init__) (fun cdv A outer s H hr hgd => ?_) w_Climb___init__
  have hu := hr.units
  exact (b_cons (s_fld T.ins (e_var 0) (e_dc [("number", 2), ("head", 3), ("body", 4)] rfl sc_Climb___init__.nd (i_seq (e_call (G_good_rows) (hr.mono (by decide)) hgd (by rfl) T.g_good_rows T.F_good_rows.kp T.b_good_rows (a_cons (e_var 1) a_nil))) (blkOk_by (own := [("number", 2), ("head", 3), ("body", 4)]) (N := N_Climb___init__) (sc := defScope s_Climb___init__) (by decide +kernel)) (fun _ _ _ _ _ => (g_tup rfl (gs_cons (g_name [2, 3, 4] 2 sc_Climb___init__.nd) (gs_cons (g_name [2, 3, 4] 3 sc_Climb___init__.nd) (gs_cons (g_name [2, 3, 4] 4 sc_Climb___init__.nd) (gs_nil [2, 3, 4])))))) (fun _ _ _ _ _ => ts_nil) (fun _ _ _ _ _ => (e_callTy c_strI (by rfl) T.n_str (by decide +kernel) (a_cons (e_var 2) a_nil))) (fun _ _ _ _ _ => (e_tup (a_cons (e_var 2) (a_cons (e_var 3) (a_cons (e_var 4) a_nil)))))))
  (b_cons (s_fld T.ins (e_var 0) (e_mlst a_nil))
  (b_cons (s_fld T.ins (e_var 0) e_non)
  (b_cons (s_fld T.ins (e_var 0) e_bl)
  (b_one (s_fld T.ins (e_var 0) e_non))))))
theorem ok_read_tree : FnX P w K mg base 8 T.f_read_tree T.d_read_tree ["rules", "line"] sp_read_tree := by
  have G_Climb_takes := ok_Climb_takes (P := P) (w := w) (base := base) T HB
  have G_Climb___init__ := ok_Climb___init__ (P := P) (w := w) (base := base) T HB
  refine fn_x T.F_read_tree sc_read_tree len_read_tree (g := W_read_tree) (fun cdv A outer s H E hr hgd => ?_) w_read_tree
  have hu := hr.units
  exact (bx_cons (sx_of (s_set 2 (e_bm PySem.F.plainAttrs_str PySem.F.slot_str_split PySem.F.type_str_split m_split (e_var 1) (a_cons e_str a_nil)) sc_read_tree.nd))
  (bx_cons (sx_of (s_set 3 (e_new T.mk_Climb T.a_Climb (G_Climb___init__) (hr.mono (by decide)) hgd T.b_Climb___init__ (by rfl) T.c_Climb (a_cons (e_var 0) a_nil)) sc_read_tree.nd))
  (bx_cons (sx_for (passes_of rfl) rfl (i_enum (by rfl) T.n_enumerate (a_cons (e_var 2) a_nil)) (g_tup rfl (gs_cons (g_name [4, 5] 4 sc_read_tree.nd) (gs_cons (g_name [4, 5] 5 sc_read_tree.nd) (gs_nil [4, 5]))))
  (bx_one (sx_if (t_not (t_val (e_meth (G_Climb_takes) (hr.mono (by decide)) hgd T.m_Climb_takes T.b_Climb_takes (e_var 3) (a_cons (e_var 5) a_nil)))) (bx_one (sx_raiseF rfl (takes_of rfl rfl rfl rfl) T.o_NoText T.a_NoText T.i_NoText T.t_NoText (ok_NoText_i T HB) (hr.mono (by decide)) T.b_NoText_i (by rfl) T.c_NoText (e_var 4))) bx_nil)))
  (bx_cons (sx_if (t_cmp o_is (e_fld T.ins (e_var 3)) e_non (nomark _)) (bx_one (sx_raiseF rfl (takes_of rfl rfl rfl rfl) T.o_NoText T.a_NoText T.i_NoText T.t_NoText (ok_NoText_i T HB) (hr.mono (by decide)) T.b_NoText_i (by rfl) T.c_NoText (e_callB c_len (by rfl) T.n_len (by decide +kernel) (a_cons (e_var 2) a_nil)))) bx_nil)
  (bx_one (sx_of (s_ret (e_fld T.ins (e_var 3)))))))))
theorem ok_l_amixed : FnG P w K mg base 1 T.f_l_amixed T.d_l_amixed ["_law_cell", "_law_at"] sp_l_amixed := by
  refine fn_g T.F_l_amixed sc_l_amixed len_l_amixed (g := W_l_amixed) (fun cdv A outer s H hr hgd => ?_) w_l_amixed
  have hu := hr.units
  exact (b_cons (s_set 2 (e_op o_mod (e_op o_add (e_op o_add (e_op o_mul (e_op o_mod (e_var 0) e_int) e_int) (e_op o_mul (e_var 1) e_int)) e_int) e_int) sc_l_amixed.nd)
  (b_cons (s_set 3 (e_op o_mod (e_op o_add (e_op o_add (e_op o_mul (e_var 2) (e_var 2)) (e_op o_mul (e_op o_mul (e_var 1) (e_var 1)) e_int)) e_int) e_int) sc_l_amixed.nd)
  (b_cons (s_set 4 (e_op o_mod (e_op o_add (e_op o_add (e_op o_mul (e_var 3) (e_var 3)) (e_var 2)) (e_var 1)) e_int) sc_l_amixed.nd)
  (b_one (s_ret (e_op o_add (e_op o_mul (e_op o_add (e_op o_mul (e_var 4) e_int) (e_var 3)) e_int) (e_var 2)))))))
theorem ok_l_aopen : FnG P w K mg base 1 T.f_l_aopen T.d_l_aopen ["_law_script"] sp_l_aopen := by
  refine fn_g T.F_l_aopen sc_l_aopen len_l_aopen (g := W_l_aopen) (fun cdv A outer s H hr hgd => ?_) w_l_aopen
  have hu := hr.units
  exact (b_one (s_ret (e_mlst (a_cons (e_callTy c_list (by rfl) T.n_list (by decide +kernel) (a_cons (e_sl (e_var 0) p_none (p_some e_int)) a_nil)) (a_cons e_int (a_cons e_int a_nil))))))
theorem ok_l_adraw : FnG P w K mg base 2 T.f_l_adraw T.d_l_adraw ["_law_feed", "_law_often"] sp_l_adraw := by
  have G_l_amixed := ok_l_amixed (P := P) (w := w) (base := base) T HB
  refine fn_g T.F_l_adraw sc_l_adraw len_l_adraw (g := W_l_adraw) (fun cdv A outer s H hr hgd => ?_) w_l_adraw
  have hu := hr.units
  exact (b_cons (s_if (t_cmp o_lt (e_ix (e_var 0) e_int) (e_var 1) (nomark _)) (b_cons (s_set 2 (e_ix (e_var 0) e_int) sc_l_adraw.nd)
  (b_cons (s_set 3 (e_op o_mul (e_var 2) e_int) sc_l_adraw.nd)
  (b_cons (s_if (t_cmp (o_ne hu) (e_ix (e_var 0) e_int) (e_lst a_nil) (nomark _)) (b_one (s_set 3 (e_ix (e_ix (e_var 0) e_int) (e_op o_mod (e_var 2) (e_callB c_len (by rfl) T.n_len (by decide +kernel) (a_cons (e_ix (e_var 0) e_int) a_nil)))) sc_l_adraw.nd)) b_nil)
  (b_cons (s_asg (e_op o_add (e_var 2) e_int) (g_sub [] (e_var 0) e_int))
  (b_cons (s_asg (e_var 3) (g_sub [] (e_var 0) e_int))
  (b_one (s_if (t_w (t_or (t_cmp o_lt (e_var 3) (e_op o_pow e_int e_int) (nomark _)) (t_or1 (t_cmp o_ge (e_var 2) (e_callB c_len (by rfl) T.n_len (by decide +kernel) (a_cons (e_ix (e_var 0) e_int) a_nil)) (nomark _))))) (b_one (s_asg (e_call (G_l_amixed) (hr.mono (by decide)) hgd (by rfl) T.g_l_amixed T.F_l_amixed.kp T.b_l_amixed (a_cons (e_var 3) (a_cons (e_var 2) a_nil))) (g_sub [] (e_var 0) e_int))) b_nil))))))) b_nil)
  (b_cons (s_set 4 (e_op o_mod (e_ix (e_var 0) e_int) (e_var 1)) sc_l_adraw.nd)
  (b_cons (s_asg (e_op o_fdiv (e_ix (e_var 0) e_int) (e_var 1)) (g_sub [] (e_var 0) e_int))
  (b_one (s_ret (e_var 4))))))
theorem ok_l_ais_name : FnG P w K mg base 1 T.f_l_ais_name T.d_l_ais_name ["_law_word"] sp_l_ais_name := by
  refine fn_g T.F_l_ais_name sc_l_ais_name len_l_ais_name (g := W_l_ais_name) (fun cdv A outer s H hr hgd => ?_) w_l_ais_name
  have hu := hr.units
  exact (b_one (s_ret (e_and (e_cmp (o_in hu) (e_sl (e_var 0) p_none (p_some e_int)) e_str (by rfl)) (e_one (e_cmp (o_ne hu) (e_var 0) e_str (nomark _))))))
theorem ok_l_akind : FnG P w K mg base 1 T.f_l_akind T.d_l_akind ["_law_caught"] sp_l_akind := by
  refine fn_g T.F_l_akind sc_l_akind len_l_akind (g := W_l_akind) (fun cdv A outer s H hr hgd => ?_) w_l_akind
  have hu := hr.units
  exact (b_cons (s_set 1 (e_lst (a_cons (e_callB (c_isiE T.cls) (by rfl) T.n_isinstance (by decide +kernel) (a_cons (e_var 0) (a_cons (e_gObj (by rfl) T.c_NoPiece T.a_NoPiece) a_nil))) (a_cons (e_callB (c_isiE T.cls) (by rfl) T.n_isinstance (by decide +kernel) (a_cons (e_var 0) (a_cons (e_gObj (by rfl) T.c_Endless T.a_Endless) a_nil))) a_nil))) sc_l_akind.nd)
  (b_cons (s_set 1 (e_op o_add (e_var 1) (e_lst (a_cons (e_callB (c_isiE T.cls) (by rfl) T.n_isinstance (by decide +kernel) (a_cons (e_var 0) (a_cons (e_gObj (by rfl) T.c_NoStretch T.a_NoStretch) a_nil))) (a_cons (e_callB (c_isiE T.cls) (by rfl) T.n_isinstance (by decide +kernel) (a_cons (e_var 0) (a_cons (e_gObj (by rfl) T.c_NoPlace T.a_NoPlace) a_nil))) a_nil)))) sc_l_akind.nd)
  (b_cons (s_set 1 (e_op o_add (e_var 1) (e_lst (a_cons (e_callB (c_isiE T.cls) (by rfl) T.n_isinstance (by decide +kernel) (a_cons (e_var 0) (a_cons (e_gObj (by rfl) T.c_NoCut T.a_NoCut) a_nil))) (a_cons (e_callB (c_isiE T.cls) (by rfl) T.n_isinstance (by decide +kernel) (a_cons (e_var 0) (a_cons (e_gObj (by rfl) T.c_NoSign T.a_NoSign) a_nil))) a_nil)))) sc_l_akind.nd)
  (b_cons (s_set 1 (e_op o_add (e_var 1) (e_lst (a_cons (e_callB (c_isiE T.cls) (by rfl) T.n_isinstance (by decide +kernel) (a_cons (e_var 0) (a_cons (e_gObj (by rfl) T.c_TooLong T.a_TooLong) a_nil))) (a_cons (e_callB (c_isiE T.cls) (by rfl) T.n_isinstance (by decide +kernel) (a_cons (e_var 0) (a_cons (e_gObj (by rfl) T.c_NoBatch T.a_NoBatch) a_nil))) a_nil)))) sc_l_akind.nd)
  (b_cons (s_set 1 (e_op o_add (e_var 1) (e_lst (a_cons (e_callB (c_isiE T.cls) (by rfl) T.n_isinstance (by decide +kernel) (a_cons (e_var 0) (a_cons (e_gObj (by rfl) T.c_NoBack T.a_NoBack) a_nil))) (a_cons (e_callB (c_isiE T.cls) (by rfl) T.n_isinstance (by decide +kernel) (a_cons (e_var 0) (a_cons (e_gObj (by rfl) T.c_NoForbid T.a_NoForbid) a_nil))) (a_cons (e_callB (c_isiE T.cls) (by rfl) T.n_isinstance (by decide +kernel) (a_cons (e_var 0) (a_cons (e_gObj (by rfl) T.c_NoMark T.a_NoMark) a_nil))) a_nil))))) sc_l_akind.nd)
  (b_cons (s_set 1 (e_op o_add (e_var 1) (e_lst (a_cons (e_callB (c_isiE T.cls) (by rfl) T.n_isinstance (by decide +kernel) (a_cons (e_var 0) (a_cons (e_gObj (by rfl) T.c_NoRow T.a_NoRow) a_nil))) (a_cons (e_callB (c_isiE T.cls) (by rfl) T.n_isinstance (by decide +kernel) (a_cons (e_var 0) (a_cons (e_gObj (by rfl) T.c_NoText T.a_NoText) a_nil))) a_nil)))) sc_l_akind.nd)
  (b_cons (s_if (t_w (t_or (t_cmp (o_ne hu) (e_bm PySem.F.plainAttrs_list PySem.F.slot_list_count PySem.F.type_list_count m_countB (e_var 1) (a_cons e_bl a_nil)) e_int (nomark _)) (t_or1 (t_not (t_val (e_callB (c_isiE T.cls) (by rfl) T.n_isinstance (by decide +kernel) (a_cons (e_var 0) (a_cons (e_gTy (by rfl) T.n_ValueError (by decide +kernel)) a_nil)))))))) (b_one (s_ret e_str)) b_nil)
  (b_cons (s_set 2 (e_lst (a_cons e_str (a_cons e_str (a_cons e_str (a_cons e_str (a_cons e_str (a_cons e_str (a_cons e_str (a_cons e_str a_nil))))))))) sc_l_akind.nd)
  (b_one (s_ret (e_ix (e_op o_add (e_var 2) (e_lst (a_cons e_str (a_cons e_str (a_cons e_str (a_cons e_str (a_cons e_str a_nil))))))) (e_bm PySem.F.plainAttrs_list PySem.F.slot_list_index PySem.F.type_list_index m_indexB (e_var 1) (a_cons e_bl a_nil)))))))))))))
theorem ok_l_aword : FnG P w K mg base 3 T.f_l_aword T.d_l_aword ["_law_feed", "_law_heads", "_law_others", "_law_often"] sp_l_aword := by
  have G_l_adraw := ok_l_adraw (P := P) (w := w) (base := base) T HB
  refine fn_g T.F_l_aword sc_l_aword len_l_aword (g := W_l_aword) (fun cdv A outer s H hr hgd => ?_) w_l_aword
  have hu := hr.units
  exact (b_cons (s_set 4 (e_ix (e_var 1) (e_call (G_l_adraw) (hr.mono (by decide)) hgd (by rfl) T.g_l_adraw T.F_l_adraw.kp T.b_l_adraw (a_cons (e_var 0) (a_cons (e_callB c_len (by rfl) T.n_len (by decide +kernel) (a_cons (e_var 1) a_nil)) a_nil)))) sc_l_aword.nd)
  (b_cons (s_for PassesOwn.never rfl (i_rng1 (by rfl) T.n_range (a_cons (e_ix (e_lst (a_cons e_int (a_cons e_int (a_cons e_int (a_cons e_int a_nil))))) (e_call (G_l_adraw) (hr.mono (by decide)) hgd (by rfl) T.g_l_adraw T.F_l_adraw.kp T.b_l_adraw (a_cons (e_var 0) (a_cons e_int a_nil)))) a_nil)) (g_name [5] 5 sc_l_aword.nd)
  (b_one (s_set 4 (e_op o_add (e_var 4) (e_ix (e_var 2) (e_call (G_l_adraw) (hr.mono (by decide)) hgd (by rfl) T.g_l_adraw T.F_l_adraw.kp T.b_l_adraw (a_cons (e_var 0) (a_cons (e_callB c_len (by rfl) T.n_len (by decide +kernel) (a_cons (e_var 2) a_nil)) a_nil))))) sc_l_aword.nd)))
  (b_cons (s_set 6 (e_call (G_l_adraw) (hr.mono (by decide)) hgd (by rfl) T.g_l_adraw T.F_l_adraw.kp T.b_l_adraw (a_cons (e_var 0) (a_cons e_int a_nil))) sc_l_aword.nd)
  (b_one (s_ret (e_lc [("_law_k", 5)] rfl sc_l_aword.nd (i_rng1 (by rfl) T.n_range (a_cons (e_var 3) a_nil)) (blkOk_by (own := [("_law_k", 5)]) (N := N_l_aword) (sc := defScope s_l_aword) (by decide +kernel)) (fun _ _ _ _ _ => (g_name [5] 5 sc_l_aword.nd)) (fun _ _ _ _ _ => ts_nil) (fun _ _ _ _ _ => (e_op o_add (e_var 4) (e_ix e_str (e_op o_mod (e_op o_add (e_var 6) (e_op o_mul e_int (e_var 5))) e_int))))))))))
theorem ok_l_aall_signs : FnG P w K mg base 4 T.f_l_aall_signs T.d_l_aall_signs ["_law_feed", "_law_often"] sp_l_aall_signs := by
  have G_l_adraw := ok_l_adraw (P := P) (w := w) (base := base) T HB
  have G_l_aword := ok_l_aword (P := P) (w := w) (base := base) T HB
  refine fn_g T.F_l_aall_signs sc_l_aall_signs len_l_aall_signs (g := W_l_aall_signs) (fun cdv A outer s H hr hgd => ?_) w_l_aall_signs
  have hu := hr.units
  exact (b_cons (s_set 2 e_str sc_l_aall_signs.nd)
  (b_cons (s_set 3 (e_call (G_l_aword) (hr.mono (by decide)) hgd (by rfl) T.g_l_aword T.F_l_aword.kp T.b_l_aword (a_cons (e_var 0) (a_cons (e_var 2) (a_cons (e_var 2) (a_cons (e_var 1) a_nil))))) sc_l_aall_signs.nd)
  (b_cons (s_if (t_cmp (o_eq hu) (e_call (G_l_adraw) (hr.mono (by decide)) hgd (by rfl) T.g_l_adraw T.F_l_adraw.kp T.b_l_adraw (a_cons (e_var 0) (a_cons e_int a_nil))) e_int (nomark _)) (b_cons (s_set 4 (e_call (G_l_adraw) (hr.mono (by decide)) hgd (by rfl) T.g_l_adraw T.F_l_adraw.kp T.b_l_adraw (a_cons (e_var 0) (a_cons e_int a_nil))) sc_l_aall_signs.nd)
  (b_cons (s_set 5 e_str sc_l_aall_signs.nd)
  (b_one (s_set 3 (e_op o_add (e_sl (e_lc [("_law_k", 6)] rfl sc_l_aall_signs.nd (i_rng1 (by rfl) T.n_range (a_cons (e_var 1) a_nil)) (blkOk_by (own := [("_law_k", 6)]) (N := N_l_aall_signs) (sc := defScope s_l_aall_signs) (by decide +kernel)) (fun _ _ _ _ _ => (g_name [6] 6 sc_l_aall_signs.nd)) (fun _ _ _ _ _ => ts_nil) (fun _ _ _ _ _ => (e_ix (e_op o_add (e_var 5) (e_var 5)) (e_op o_add (e_var 4) (e_var 6))))) p_none (p_some (e_op o_fdiv (e_var 1) e_int))) (e_sl (e_var 3) (p_some (e_op o_fdiv (e_var 1) e_int)) p_none)) sc_l_aall_signs.nd)))) b_nil)
  (b_one (s_ret (e_var 3))))))
theorem ok_l_awide_rules : FnG P w K mg base 5 T.f_l_awide_rules T.d_l_awide_rules ["_law_feed"] sp_l_awide_rules := by
  have G_l_adraw := ok_l_adraw (P := P) (w := w) (base := base) T HB
  have G_l_aall_signs := ok_l_aall_signs (P := P) (w := w) (base := base) T HB
  have G_l_aword := ok_l_aword (P := P) (w := w) (base := base) T HB
  refine fn_g T.F_l_awide_rules sc_l_awide_rules len_l_awide_rules (g := W_l_awide_rules) (fun cdv A outer s H hr hgd => ?_) w_l_awide_rules
  have hu := hr.units
  exact (b_cons (s_set 1 e_str sc_l_awide_rules.nd)
  (b_cons (s_set 2 e_str sc_l_awide_rules.nd)
  (b_cons (s_set 3 (e_call (G_l_aword) (hr.mono (by decide)) hgd (by rfl) T.g_l_aword T.F_l_aword.kp T.b_l_aword (a_cons (e_var 0) (a_cons (e_var 1) (a_cons (e_var 2) (a_cons (e_op o_add e_int (e_call (G_l_adraw) (hr.mono (by decide)) hgd (by rfl) T.g_l_adraw T.F_l_adraw.kp T.b_l_adraw (a_cons (e_var 0) (a_cons e_int a_nil)))) a_nil))))) sc_l_awide_rules.nd)
  (b_cons (s_set 4 (e_call (G_l_aall_signs) (hr.mono (by decide)) hgd (by rfl) T.g_l_aall_signs T.F_l_aall_signs.kp T.b_l_aall_signs (a_cons (e_var 0) (a_cons (e_op o_add e_int (e_call (G_l_adraw) (hr.mono (by decide)) hgd (by rfl) T.g_l_adraw T.F_l_adraw.kp T.b_l_adraw (a_cons (e_var 0) (a_cons e_int a_nil)))) a_nil))) sc_l_awide_rules.nd)
  (b_cons (s_set 5 (e_mlst a_nil) sc_l_awide_rules.nd)
  (b_cons (s_for PassesOwn.never rfl (i_rng1 (by rfl) T.n_range (a_cons (e_op o_add e_int (e_call (G_l_adraw) (hr.mono (by decide)) hgd (by rfl) T.g_l_adraw T.F_l_adraw.kp T.b_l_adraw (a_cons (e_var 0) (a_cons (e_ix (e_lst (a_cons e_int (a_cons e_int a_nil))) (e_call (G_l_adraw) (hr.mono (by decide)) hgd (by rfl) T.g_l_adraw T.F_l_adraw.kp T.b_l_adraw (a_cons (e_var 0) (a_cons e_int a_nil)))) a_nil)))) a_nil)) (g_name [6] 6 sc_l_awide_rules.nd)
  (b_cons (s_set 7 (e_ix (e_var 3) (e_call (G_l_adraw) (hr.mono (by decide)) hgd (by rfl) T.g_l_adraw T.F_l_adraw.kp T.b_l_adraw (a_cons (e_var 0) (a_cons (e_callB c_len (by rfl) T.n_len (by decide +kernel) (a_cons (e_var 3) a_nil)) a_nil)))) sc_l_awide_rules.nd)
  (b_cons (s_set 8 (e_tup a_nil) sc_l_awide_rules.nd)
  (b_cons (s_for PassesOwn.never rfl (i_rng1 (by rfl) T.n_range (a_cons (e_call (G_l_adraw) (hr.mono (by decide)) hgd (by rfl) T.g_l_adraw T.F_l_adraw.kp T.b_l_adraw (a_cons (e_var 0) (a_cons e_int a_nil))) a_nil)) (g_name [9] 9 sc_l_awide_rules.nd)
  (b_cons (s_set 10 (e_ix (e_lst (a_cons (e_var 3) (a_cons (e_var 4) (a_cons (e_var 4) a_nil)))) (e_call (G_l_adraw) (hr.mono (by decide)) hgd (by rfl) T.g_l_adraw T.F_l_adraw.kp T.b_l_adraw (a_cons (e_var 0) (a_cons e_int a_nil)))) sc_l_awide_rules.nd)
  (b_one (s_set 8 (e_op o_add (e_var 8) (e_tup (a_cons (e_ix (e_var 10) (e_call (G_l_adraw) (hr.mono (by decide)) hgd (by rfl) T.g_l_adraw T.F_l_adraw.kp T.b_l_adraw (a_cons (e_var 0) (a_cons (e_callB c_len (by rfl) T.n_len (by decide +kernel) (a_cons (e_var 10) a_nil)) a_nil)))) a_nil))) sc_l_awide_rules.nd))))
  (b_one (s_if (t_cmp (o_notIn hu) (e_tup (a_cons (e_var 7) (a_cons (e_var 8) a_nil))) (e_var 5) (by rfl)) (b_one (s_expr (e_bm PySem.F.plainAttrs_list PySem.F.slot_list_append PySem.F.type_list_append m_append (e_var 5) (a_cons (e_tup (a_cons (e_var 7) (a_cons (e_var 8) a_nil))) a_nil)))) b_nil))))))
  (b_one (s_ret (e_tup (a_cons (e_ix (e_var 3) e_int) (a_cons (e_callTy c_tuple (by rfl) T.n_tuple (by decide +kernel) (a_cons (e_var 5) a_nil)) a_nil)))))))))))
theorem ok_l_atree_words : ∀ n, FnG P w K mg base (0 + n) T.f_l_atree_words T.d_l_atree_words ["_law_tree"] (sp_l_atree_words n)
  | 0 => ⟨fun _ _ _ z => z.elim, fun _ _ _ _ _ _ _ _ _ _ _ _ _ ⟨_, _, _, _, _, _, z, _⟩ => z.elim⟩
  | n + 1 => by
    have ih := ok_l_atree_words n
    show FnG P w K mg base ((0 + n) + 1) _ _ _ _
    refine fn_g T.F_l_atree_words sc_l_atree_words (fun ds h Q z => z.1) (g := W_l_atree_words (sp_l_atree_words n)) (fun cdv A outer s H hr hgd => ?_) (fun ds h Q z => z.2)
    have hu := hr.units
    exact (b_cons (s_if (t_val (e_callB c_isi (by rfl) T.n_isinstance (by decide +kernel) (a_cons (e_var 0) (a_cons (e_gTy (by rfl) T.n_str (by decide +kernel)) a_nil)))) (b_one (s_ret (e_lst (a_cons (e_var 0) a_nil)))) b_nil)
    (b_cons (s_set 1 (e_lst (a_cons e_str (a_cons (e_callTy c_strI (by rfl) T.n_str (by decide +kernel) (a_cons (e_ix (e_var 0) e_int) a_nil)) a_nil))) sc_l_atree_words.nd)
    (b_cons (s_for PassesOwn.never rfl (i_seq (e_ix (e_var 0) e_int)) (g_name [2] 2 sc_l_atree_words.nd)
    (b_one (s_set 1 (e_op o_add (e_var 1) (e_call ih hr hgd (by rfl) T.g_l_atree_words T.F_l_atree_words.kp T.b_l_atree_words (a_cons (e_var 2) a_nil))) sc_l_atree_words.nd)))
    (b_one (s_ret (e_op o_add (e_var 1) (e_lst (a_cons e_str a_nil))))))))
theorem ok_l_aheights : FnG P w K mg base 2 T.f_l_aheights T.d_l_aheights ["_law_rules"] sp_l_aheights := by
  have G_l_ais_name := ok_l_ais_name (P := P) (w := w) (base := base) T HB
  refine fn_g T.F_l_aheights sc_l_aheights len_l_aheights (g := W_l_aheights) (fun cdv A outer s H hr hgd => ?_) w_l_aheights
  have hu := hr.units
  exact (b_cons (s_set 1 e_dnewK sc_l_aheights.nd)
  (b_cons (s_for PassesOwn.never rfl (i_rng1 (by rfl) T.n_range (a_cons (e_callB c_len (by rfl) T.n_len (by decide +kernel) (a_cons (e_ix (e_var 0) e_int) a_nil)) a_nil)) (g_name [2] 2 sc_l_aheights.nd)
  (b_one (s_for PassesOwn.never rfl (i_seq (e_ix (e_var 0) e_int)) (g_tup rfl (gs_cons (g_name [3, 4] 3 sc_l_aheights.nd) (gs_cons (g_name [3, 4] 4 sc_l_aheights.nd) (gs_nil [3, 4]))))
  (b_cons (s_setLc 5 [("_law_word", 7)] rfl sc_l_aheights.nd rfl rfl (sw_true rfl rfl rfl (by decide +kernel)) (i_seq (e_var 4)) (blkOk_by (own := [("_law_word", 7)]) (N := N_l_aheights) (sc := defScope s_l_aheights) (by decide +kernel)) (fun _ _ _ _ _ => (g_name [7] 7 sc_l_aheights.nd)) (fun _ _ _ _ _ => (ts_one (t_val (e_call (G_l_ais_name) (hr.mono (by decide)) hgd (by rfl) T.g_l_ais_name T.F_l_ais_name.kp T.b_l_ais_name (a_cons (e_var 7) a_nil))))) (fun _ _ _ _ _ => (e_var 7)))
  (b_one (s_if (t_cmp (o_eq hu) (e_callB c_len (by rfl) T.n_len (by decide +kernel) (a_cons (e_lc [("_law_word", 7)] rfl sc_l_aheights.nd (i_seq (e_var 5)) (blkOk_by (own := [("_law_word", 7)]) (N := N_l_aheights) (sc := defScope s_l_aheights) (by decide +kernel)) (fun _ _ _ _ _ => (g_name [7] 7 sc_l_aheights.nd)) (fun _ _ _ _ _ => (ts_one (t_dnotin hu (e_var 7) (e_var 1)))) (fun _ _ _ _ _ => (e_var 7))) a_nil)) e_int (nomark _)) (b_cons (s_set 6 (e_op o_add e_int (e_callB (c_maxL rfl) (by rfl) T.n_max (by decide +kernel) (a_cons (e_op o_add (e_lc [("_law_word", 7)] rfl sc_l_aheights.nd (i_seq (e_var 5)) (blkOk_by (own := [("_law_word", 7)]) (N := N_l_aheights) (sc := defScope s_l_aheights) (by decide +kernel)) (fun _ _ _ _ _ => (g_name [7] 7 sc_l_aheights.nd)) (fun _ _ _ _ _ => ts_nil) (fun _ _ _ _ _ => (e_dget hu (e_var 1) (e_var 7)))) (e_lst (a_cons e_int a_nil))) a_nil))) sc_l_aheights.nd)
  (b_one (s_dput hu (e_var 1) (e_var 3) (e_callB (c_min rfl) (by rfl) T.n_min (by decide +kernel) (a_cons (e_dget2 hu (e_var 1) (e_var 3) (e_var 6) (by constructor <;> rfl)) (a_cons (e_var 6) a_nil)))))) b_nil))))))
  (b_one (s_ret (e_var 1)))))
theorem ok_l_agood : FnG P w K mg base 2 T.f_l_agood T.d_l_agood ["_law_rules", "_law_heights", "_law_head"] sp_l_agood := by
  have G_l_ais_name := ok_l_ais_name (P := P) (w := w) (base := base) T HB
  refine fn_g T.F_l_agood sc_l_agood len_l_agood (g := W_l_agood) (fun cdv A outer s H hr hgd => ?_) w_l_agood
  have hu := hr.units
  exact (b_cons (s_set 3 (e_mlst a_nil) sc_l_agood.nd)
  (b_cons (s_for PassesOwn.never rfl (i_enum (by rfl) T.n_enumerate (a_cons (e_ix (e_var 0) e_int) a_nil)) (g_tup rfl (gs_cons (g_name [4, 5] 4 sc_l_agood.nd) (gs_cons (g_name [4, 5] 5 sc_l_agood.nd) (gs_nil [4, 5]))))
  (b_cons (s_setLc 6 [("_law_word", 7)] rfl sc_l_agood.nd rfl rfl (sw_true rfl rfl rfl (by decide +kernel)) (i_seq (e_ix (e_var 5) e_int)) (blkOk_by (own := [("_law_word", 7)]) (N := N_l_agood) (sc := defScope s_l_agood) (by decide +kernel)) (fun _ _ _ _ _ => (g_name [7] 7 sc_l_agood.nd)) (fun _ _ _ _ _ => (ts_one (t_w (t_and (t_val (e_call (G_l_ais_name) (hr.mono (by decide)) hgd (by rfl) T.g_l_ais_name T.F_l_ais_name.kp T.b_l_ais_name (a_cons (e_var 7) a_nil))) (t_and1 (t_dnotin hu (e_var 7) (e_var 1))))))) (fun _ _ _ _ _ => (e_var 7)))
  (b_one (s_if (t_w (t_and (t_cmp (o_eq hu) (e_var 6) (e_lst a_nil) (nomark _)) (t_and1 (t_cmp (o_in hu) (e_var 2) (e_tup (a_cons e_non (a_cons (e_ix (e_var 5) e_int) a_nil))) (by rfl))))) (b_one (s_expr (e_bm PySem.F.plainAttrs_list PySem.F.slot_list_append PySem.F.type_list_append m_append (e_var 3) (a_cons (e_var 4) a_nil)))) b_nil))))
  (b_one (s_ret (e_frz (e_var 3))))))
theorem ok_l_ahigh : FnG P w K mg base 2 T.f_l_ahigh T.d_l_ahigh ["_law_rules", "_law_heights", "_law_number"] sp_l_ahigh := by
  have G_l_ais_name := ok_l_ais_name (P := P) (w := w) (base := base) T HB
  refine fn_g T.F_l_ahigh sc_l_ahigh len_l_ahigh (g := W_l_ahigh) (fun cdv A outer s H hr hgd => ?_) w_l_ahigh
  have hu := hr.units
  exact (b_one (s_ret (e_op o_add e_int (e_callB (c_maxL rfl) (by rfl) T.n_max (by decide +kernel) (a_cons (e_op o_add (e_lc [("_law_word", 3)] rfl sc_l_ahigh.nd (i_seq (e_ix (e_ix (e_ix (e_var 0) e_int) (e_var 2)) e_int)) (blkOk_by (own := [("_law_word", 3)]) (N := N_l_ahigh) (sc := defScope s_l_ahigh) (by decide +kernel)) (fun _ _ _ _ _ => (g_name [3] 3 sc_l_ahigh.nd)) (fun _ _ _ _ _ => (ts_one (t_val (e_call (G_l_ais_name) (hr.mono (by decide)) hgd (by rfl) T.g_l_ais_name T.F_l_ais_name.kp T.b_l_ais_name (a_cons (e_var 3) a_nil))))) (fun _ _ _ _ _ => (e_dget hu (e_var 1) (e_var 3)))) (e_lst (a_cons e_int a_nil))) a_nil)))))
theorem ok_l_atree : ∀ n, FnG P w K mg base (2 + n) T.f_l_atree T.d_l_atree ["_law_feed", "_law_rules", "_law_heights", "_law_head", "_law_left"] (sp_l_atree n)
  | 0 => ⟨fun _ _ _ z => z.elim, fun _ _ _ _ _ _ _ _ _ _ _ _ _ ⟨_, _, _, _, _, _, z, _⟩ => z.elim⟩
  | n + 1 => by
    have ih := ok_l_atree n
    have G_l_ais_name := ok_l_ais_name (P := P) (w := w) (base := base) T HB
    have G_l_adraw := ok_l_adraw (P := P) (w := w) (base := base) T HB
    have G_l_ahigh := ok_l_ahigh (P := P) (w := w) (base := base) T HB
    have G_l_agood := ok_l_agood (P := P) (w := w) (base := base) T HB
    show FnG P w K mg base ((2 + n) + 1) _ _ _ _
    refine fn_g T.F_l_atree sc_l_atree (fun ds h Q z => z.1) (g := W_l_atree (sp_l_atree n)) (fun cdv A outer s H hr hgd => ?_) (fun ds h Q z => z.2)
    have hu := hr.units
    exact (b_cons (s_set 5 (e_call (G_l_agood) (hr.mono (by omega)) hgd (by rfl) T.g_l_agood T.F_l_agood.kp T.b_l_agood (a_cons (e_var 1) (a_cons (e_var 2) (a_cons (e_var 3) a_nil)))) sc_l_atree.nd)
    (b_cons (s_setLc 6 [("_law_number", 9)] rfl sc_l_atree.nd rfl rfl (sw_true rfl rfl rfl (by decide +kernel)) (i_seq (e_var 5)) (blkOk_by (own := [("_law_number", 9)]) (N := N_l_atree) (sc := defScope s_l_atree) (by decide +kernel)) (fun _ _ _ _ _ => (g_name [9] 9 sc_l_atree.nd)) (fun _ _ _ _ _ => (ts_one (t_cmp o_lt (e_callB c_len (by rfl) T.n_len (by decide +kernel) (a_cons (e_lc [("_law_word", 11)] rfl sc_l_atree.nd (i_seq (e_ix (e_ix (e_ix (e_var 1) e_int) (e_var 9)) e_int)) (blkOk_by (own := [("_law_word", 11)]) (by rfl)) (fun _ _ _ _ _ => (g_name [11] 11 sc_l_atree.nd)) (fun _ _ _ _ _ => (ts_one (t_val (e_call (G_l_ais_name) (hr.mono (by omega)) hgd (by rfl) T.g_l_ais_name T.F_l_ais_name.kp T.b_l_ais_name (a_cons (e_var 11) a_nil))))) (fun _ _ _ _ _ => (e_var 11))) a_nil)) e_int (nomark _)))) (fun _ _ _ _ _ => (e_var 9)))
    (b_cons (s_if (t_w (t_and (t_cmp o_gt (e_var 4) e_int (nomark _)) (t_and1 (t_cmp (o_ne hu) (e_var 6) (e_lst a_nil) (nomark _))))) (b_one (s_set 5 (e_var 6) sc_l_atree.nd)) b_nil)
    (b_cons (s_set 4 (e_if (t_cmp (o_ne hu) (e_var 6) (e_lst a_nil) (nomark _)) (e_var 4) (e_callB (c_min rfl) (by rfl) T.n_min (by decide +kernel) (a_cons (e_var 4) (a_cons e_int a_nil)))) sc_l_atree.nd)
    (b_cons (s_setLc 7 [("_law_number", 9)] rfl sc_l_atree.nd rfl rfl (sw_true rfl rfl rfl (by decide +kernel)) (i_seq (e_var 5)) (blkOk_by (own := [("_law_number", 9)]) (N := N_l_atree) (sc := defScope s_l_atree) (by decide +kernel)) (fun _ _ _ _ _ => (g_name [9] 9 sc_l_atree.nd)) (fun _ _ _ _ _ => (ts_one (t_cmp o_le (e_call (G_l_ahigh) (hr.mono (by omega)) hgd (by rfl) T.g_l_ahigh T.F_l_ahigh.kp T.b_l_ahigh (a_cons (e_var 1) (a_cons (e_var 2) (a_cons (e_var 9) a_nil)))) (e_var 4) (nomark _)))) (fun _ _ _ _ _ => (e_var 9)))
    (b_cons (s_if (t_cmp (o_eq hu) (e_var 7) (e_lst a_nil) (nomark _)) (b_cons (s_set 8 (e_callB (c_min2 rfl hu) (by rfl) T.n_min (by decide +kernel) (a_cons (e_lc [("_law_number", 9)] rfl sc_l_atree.nd (i_seq (e_var 5)) (blkOk_by (own := [("_law_number", 9)]) (N := N_l_atree) (sc := defScope s_l_atree) (by decide +kernel)) (fun _ _ _ _ _ => (g_name [9] 9 sc_l_atree.nd)) (fun _ _ _ _ _ => ts_nil) (fun _ _ _ _ _ => (e_call (G_l_ahigh) (hr.mono (by omega)) hgd (by rfl) T.g_l_ahigh T.F_l_ahigh.kp T.b_l_ahigh (a_cons (e_var 1) (a_cons (e_var 2) (a_cons (e_var 9) a_nil)))))) a_nil)) sc_l_atree.nd)
    (b_one (s_setLc 7 [("_law_number", 9)] rfl sc_l_atree.nd rfl rfl (sw_true rfl rfl rfl (by decide +kernel)) (i_seq (e_var 5)) (blkOk_by (own := [("_law_number", 9)]) (N := N_l_atree) (sc := defScope s_l_atree) (by decide +kernel)) (fun _ _ _ _ _ => (g_name [9] 9 sc_l_atree.nd)) (fun _ _ _ _ _ => (ts_one (t_cmp (o_eq hu) (e_call (G_l_ahigh) (hr.mono (by omega)) hgd (by rfl) T.g_l_ahigh T.F_l_ahigh.kp T.b_l_ahigh (a_cons (e_var 1) (a_cons (e_var 2) (a_cons (e_var 9) a_nil)))) (e_var 8) (nomark _)))) (fun _ _ _ _ _ => (e_var 9))))) b_nil)
    (b_cons (s_set 9 (e_ix (e_var 7) (e_call (G_l_adraw) (hr.mono (by omega)) hgd (by rfl) T.g_l_adraw T.F_l_adraw.kp T.b_l_adraw (a_cons (e_var 0) (a_cons (e_callB c_len (by rfl) T.n_len (by decide +kernel) (a_cons (e_var 7) a_nil)) a_nil)))) sc_l_atree.nd)
    (b_cons (s_set 10 (e_mlst a_nil) sc_l_atree.nd)
    (b_cons (s_for PassesOwn.never rfl (i_seq (e_ix (e_ix (e_ix (e_var 1) e_int) (e_var 9)) e_int)) (g_name [11] 11 sc_l_atree.nd)
    (b_one (s_expr (e_bm PySem.F.plainAttrs_list PySem.F.slot_list_append PySem.F.type_list_append m_append (e_var 10) (a_cons (e_if (t_val (e_call (G_l_ais_name) (hr.mono (by omega)) hgd (by rfl) T.g_l_ais_name T.F_l_ais_name.kp T.b_l_ais_name (a_cons (e_var 11) a_nil))) (e_call ih hr hgd (by rfl) T.g_l_atree T.F_l_atree.kp T.b_l_atree (a_cons (e_var 0) (a_cons (e_var 1) (a_cons (e_var 2) (a_cons (e_var 11) (a_cons (e_op o_sub (e_var 4) e_int) a_nil)))))) (e_var 11)) a_nil)))))
    (b_one (s_ret (e_tup (a_cons (e_var 9) (a_cons (e_callTy c_tuple (by rfl) T.n_tuple (by decide +kernel) (a_cons (e_var 10) a_nil)) a_nil))))))))))))))
theorem ok_l_asame : ∀ n, FnG P w K mg base (0 + n) T.f_l_asame T.d_l_asame ["_law_found", "_law_due"] (sp_l_asame n)
  | 0 => ⟨fun _ _ _ z => z.elim, fun _ _ _ _ _ _ _ _ _ _ _ _ _ ⟨_, _, _, _, _, _, z, _⟩ => z.elim⟩
  | n + 1 => by
    have ih := ok_l_asame n
    show FnG P w K mg base ((0 + n) + 1) _ _ _ _
    refine fn_g T.F_l_asame sc_l_asame (fun ds h Q z => z.1) (g := W_l_asame (sp_l_asame n)) (fun cdv A outer s H hr hgd => ?_) (fun ds h Q z => z.2)
    have hu := hr.units
    exact (b_cons (s_if (t_cmp o_is (e_var 1) e_non (nomark _)) (b_one (s_ret (e_cmp o_is (e_var 0) e_non (nomark _)))) b_nil)
    (b_cons (s_if (t_w (t_or (t_val (e_callB c_isi (by rfl) T.n_isinstance (by decide +kernel) (a_cons (e_var 1) (a_cons (e_gTy (by rfl) T.n_bool (by decide +kernel)) a_nil)))) (t_or1 (t_val (e_callB c_isi (by rfl) T.n_isinstance (by decide +kernel) (a_cons (e_var 0) (a_cons (e_gTy (by rfl) T.n_bool (by decide +kernel)) a_nil))))))) (b_one (s_ret (e_and (e_callB c_isi (by rfl) T.n_isinstance (by decide +kernel) (a_cons (e_var 1) (a_cons (e_gTy (by rfl) T.n_bool (by decide +kernel)) a_nil))) (e_and (e_callB c_isi (by rfl) T.n_isinstance (by decide +kernel) (a_cons (e_var 0) (a_cons (e_gTy (by rfl) T.n_bool (by decide +kernel)) a_nil))) (e_one (e_cmp (o_eq hu) (e_var 0) (e_var 1) (nomark _))))))) b_nil)
    (b_cons (s_if (t_val (e_callB c_isi (by rfl) T.n_isinstance (by decide +kernel) (a_cons (e_var 1) (a_cons (e_gTy (by rfl) T.n_int (by decide +kernel)) a_nil)))) (b_one (s_ret (e_and (e_callB c_isi (by rfl) T.n_isinstance (by decide +kernel) (a_cons (e_var 0) (a_cons (e_gTy (by rfl) T.n_int (by decide +kernel)) a_nil))) (e_one (e_cmp (o_eq hu) (e_var 0) (e_var 1) (nomark _)))))) b_nil)
    (b_cons (s_if (t_val (e_callB c_isi (by rfl) T.n_isinstance (by decide +kernel) (a_cons (e_var 1) (a_cons (e_gTy (by rfl) T.n_str (by decide +kernel)) a_nil)))) (b_one (s_ret (e_and (e_callB c_isi (by rfl) T.n_isinstance (by decide +kernel) (a_cons (e_var 0) (a_cons (e_gTy (by rfl) T.n_str (by decide +kernel)) a_nil))) (e_one (e_cmp (o_eq hu) (e_var 0) (e_var 1) (nomark _)))))) b_nil)
    (b_cons (s_if (t_w (t_or (t_cmp (o_ne hu) (e_callB c_isi (by rfl) T.n_isinstance (by decide +kernel) (a_cons (e_var 1) (a_cons (e_gTy (by rfl) T.n_tuple (by decide +kernel)) a_nil))) (e_callB c_isi (by rfl) T.n_isinstance (by decide +kernel) (a_cons (e_var 0) (a_cons (e_gTy (by rfl) T.n_tuple (by decide +kernel)) a_nil))) (nomark _)) (t_or1 (t_cmp (o_ne hu) (e_callB c_isi (by rfl) T.n_isinstance (by decide +kernel) (a_cons (e_var 1) (a_cons (e_gTy (by rfl) T.n_list (by decide +kernel)) a_nil))) (e_callB c_isi (by rfl) T.n_isinstance (by decide +kernel) (a_cons (e_var 0) (a_cons (e_gTy (by rfl) T.n_list (by decide +kernel)) a_nil))) (nomark _))))) (b_one (s_ret e_bl)) b_nil)
    (b_one (s_ret (e_and (e_cmp (o_eq hu) (e_callB c_len (by rfl) T.n_len (by decide +kernel) (a_cons (e_var 0) a_nil)) (e_callB c_len (by rfl) T.n_len (by decide +kernel) (a_cons (e_var 1) a_nil)) (nomark _)) (e_one (e_callB (c_all rfl) (by rfl) T.n_all (by decide +kernel) (a_cons (e_lc [("_law_one", 2), ("_law_other", 3)] rfl sc_l_asame.nd (i_zip (by rfl) T.n_zip (a_cons (e_var 0) (a_cons (e_var 1) a_nil))) (blkOk_by (own := [("_law_one", 2), ("_law_other", 3)]) (N := N_l_asame) (sc := defScope s_l_asame) (by decide +kernel)) (fun _ _ _ _ _ => (g_tup rfl (gs_cons (g_name [2, 3] 2 sc_l_asame.nd) (gs_cons (g_name [2, 3] 3 sc_l_asame.nd) (gs_nil [2, 3]))))) (fun _ _ _ _ _ => ts_nil) (fun _ _ _ _ _ => (e_call ih hr hgd (by rfl) T.g_l_asame T.F_l_asame.kp T.b_l_asame (a_cons (e_var 2) (a_cons (e_var 3) a_nil))))) a_nil)))))))))))
theorem held : HeldX P w K mg base 8 heldS := by
  intro n sp h
  unfold heldS at h
  split at h
  · rename_i e
    subst e
    cases h
    exact ⟨T.f_read_tree, T.d_read_tree, _, T.v_read_tree, (ok_read_tree T HB).mono (by decide), T.F_read_tree.kp, T.b_read_tree⟩
  cases h
theorem ok_l_anumbered : FnG P w K mg base 9 T.f_l_anumbered T.d_l_anumbered ["_law_act", "_law_some"] sp_l_anumbered := by
  have G_l_akind := ok_l_akind (P := P) (w := w) (base := base) T HB
  have G_read_tree := ok_read_tree (P := P) (w := w) (base := base) T HB
  refine fn_g T.F_l_anumbered sc_l_anumbered len_l_anumbered (g := W_l_anumbered) (fun cdv A outer s H hr hgd => ?_) w_l_anumbered
  have hu := hr.units
  exact (b_cons (s_set 2 e_non sc_l_anumbered.nd)
  (b_cons (s_set 3 e_non sc_l_anumbered.nd)
  (b_cons (s_tryK (i := 4) (j := 3) T.cls rfl rfl rfl sc_l_anumbered.nd rfl rfl (by rfl) (by decide) T.c_ReadError T.a_ReadError (fun W pn xe tk => (ex_if (t_cmp (o_eq hu) (e_callB c_len (by rfl) T.n_len (by decide +kernel) (a_cons (e_var 1) a_nil)) e_int (nomark _)) (ex_callL (i := 0) (held T HB) (hr.mono (by decide)) hgd tk (a_cons (e_ix (e_var 1) e_int) a_nil)) (ex_callL (i := 0) (held T HB) (hr.mono (by decide)) hgd tk (a_cons (e_ix (e_var 1) e_int) (a_cons (e_ix (e_var 1) e_int) a_nil))))) (fun a oe pn => (b_one (s_set 2 (e_var 4) sc_l_anumbered.nd))) rfl (Or.inl rfl) (by rfl) (Or.inr rfl))
  (b_cons (s_if (t_cmp o_is (e_var 2) e_non (nomark _)) (b_one (s_ret (e_tup (a_cons e_str (a_cons (e_var 3) a_nil))))) b_nil)
  (b_cons (s_if (t_cmp (o_ne hu) (e_call (G_l_akind) (hr.mono (by decide)) hgd (by rfl) T.g_l_akind T.F_l_akind.kp T.b_l_akind (a_cons (e_var 2) a_nil)) e_str (nomark _)) (b_one (s_ret (e_tup (a_cons e_str (a_cons e_non a_nil))))) b_nil)
  (b_one (s_ret (e_tup (a_cons e_str (a_cons (e_at T.cls (e_var 2)) a_nil))))))))))
theorem ok_l_ais_any_name : FnG P w K mg base 1 T.f_l_ais_any_name T.d_l_ais_any_name ["_law_word"] sp_l_ais_any_name := by
  refine fn_g T.F_l_ais_any_name sc_l_ais_any_name len_l_ais_any_name (g := W_l_ais_any_name) (fun cdv A outer s H hr hgd => ?_) w_l_ais_any_name
  have hu := hr.units
  exact (b_cons (s_if (t_w (t_or (t_not (t_chain o_lt o_lt e_int (e_callB c_len (by rfl) T.n_len (by decide +kernel) (a_cons (e_var 0) a_nil)) e_int)) (t_or1 (t_cmp (o_notIn hu) (e_ix (e_var 0) e_int) e_str (by rfl))))) (b_one (s_ret e_bl)) b_nil)
  (b_one (s_ret (e_cmp (o_eq hu) (e_callB c_len (by rfl) T.n_len (by decide +kernel) (a_cons (e_lc [("_law_letter", 1)] rfl sc_l_ais_any_name.nd (i_seq (e_sl (e_var 0) (p_some e_int) p_none)) (blkOk_by (own := [("_law_letter", 1)]) (N := N_l_ais_any_name) (sc := defScope s_l_ais_any_name) (by decide +kernel)) (fun _ _ _ _ _ => (g_name [1] 1 sc_l_ais_any_name.nd)) (fun _ _ _ _ _ => (ts_one (t_cmp (o_notIn hu) (e_var 1) e_str (by rfl)))) (fun _ _ _ _ _ => (e_var 1))) a_nil)) e_int (nomark _)))))
theorem ok_l_aodd : FnG P w K mg base 3 T.f_l_aodd T.d_l_aodd ["_law_feed", "_law_words"] sp_l_aodd := by
  have G_l_adraw := ok_l_adraw (P := P) (w := w) (base := base) T HB
  refine fn_g T.F_l_aodd sc_l_aodd len_l_aodd (g := W_l_aodd) (fun cdv A outer s H hr hgd => ?_) w_l_aodd
  have hu := hr.units
  exact (b_cons (s_set 2 e_str sc_l_aodd.nd)
  (b_cons (s_set 2 (e_bm PySem.F.plainAttrs_str PySem.F.slot_str_split PySem.F.type_str_split m_split (e_op o_add (e_var 2) e_str) (a_cons e_str a_nil)) sc_l_aodd.nd)
  (b_cons (s_set 2 (e_op o_add (e_op o_add (e_var 2) (e_lst (a_cons e_str (a_cons e_str (a_cons e_str (a_cons (e_op o_mulS e_str e_int) (a_cons e_str (a_cons e_str (a_cons e_str (a_cons e_str (a_cons e_str (a_cons e_str (a_cons e_str a_nil))))))))))))) (e_var 1)) sc_l_aodd.nd)
  (b_one (s_ret (e_ix (e_var 2) (e_call (G_l_adraw) (hr.mono (by decide)) hgd (by rfl) T.g_l_adraw T.F_l_adraw.kp T.b_l_adraw (a_cons (e_var 0) (a_cons (e_callB c_len (by rfl) T.n_len (by decide +kernel) (a_cons (e_var 2) a_nil)) a_nil)))))))))
theorem ok_l_asmeared : FnG P w K mg base 3 T.f_l_asmeared T.d_l_asmeared ["_law_feed", "_law_word"] sp_l_asmeared := by
  have G_l_adraw := ok_l_adraw (P := P) (w := w) (base := base) T HB
  refine fn_g T.F_l_asmeared sc_l_asmeared len_l_asmeared (g := W_l_asmeared) (fun cdv A outer s H hr hgd => ?_) w_l_asmeared
  have hu := hr.units
  exact (b_cons (s_set 2 (e_call (G_l_adraw) (hr.mono (by decide)) hgd (by rfl) T.g_l_adraw T.F_l_adraw.kp T.b_l_adraw (a_cons (e_var 0) (a_cons (e_op o_add (e_callB c_len (by rfl) T.n_len (by decide +kernel) (a_cons (e_var 1) a_nil)) e_int) a_nil))) sc_l_asmeared.nd)
  (b_one (s_ret (e_op o_add (e_op o_add (e_sl (e_var 1) p_none (p_some (e_var 2))) (e_ix (e_lst (a_cons e_str (a_cons e_str (a_cons e_str (a_cons e_str (a_cons e_str (a_cons e_str a_nil))))))) (e_call (G_l_adraw) (hr.mono (by decide)) hgd (by rfl) T.g_l_adraw T.F_l_adraw.kp T.b_l_adraw (a_cons (e_var 0) (a_cons e_int a_nil))))) (e_sl (e_var 1) (p_some (e_var 2)) p_none)))))
theorem ok_l_abent : FnG P w K mg base 4 T.f_l_abent T.d_l_abent ["_law_feed", "_law_words"] sp_l_abent := by
  have G_l_asmeared := ok_l_asmeared (P := P) (w := w) (base := base) T HB
  have G_l_adraw := ok_l_adraw (P := P) (w := w) (base := base) T HB
  have G_l_aodd := ok_l_aodd (P := P) (w := w) (base := base) T HB
  refine fn_g T.F_l_abent sc_l_abent len_l_abent (g := W_l_abent) (fun cdv A outer s H hr hgd => ?_) w_l_abent
  have hu := hr.units
  exact (b_cons (s_set 2 (e_call (G_l_adraw) (hr.mono (by decide)) hgd (by rfl) T.g_l_adraw T.F_l_adraw.kp T.b_l_adraw (a_cons (e_var 0) (a_cons (e_op o_add (e_callB c_len (by rfl) T.n_len (by decide +kernel) (a_cons (e_var 1) a_nil)) e_int) a_nil))) sc_l_abent.nd)
  (b_cons (s_set 3 (e_call (G_l_adraw) (hr.mono (by decide)) hgd (by rfl) T.g_l_adraw T.F_l_adraw.kp T.b_l_adraw (a_cons (e_var 0) (a_cons e_int a_nil))) sc_l_abent.nd)
  (b_cons (s_if (t_cmp o_lt (e_var 3) e_int (nomark _)) (b_one (s_ret (e_op o_add (e_op o_add (e_sl (e_var 1) p_none (p_some (e_var 2))) (e_lst (a_cons (e_call (G_l_aodd) (hr.mono (by decide)) hgd (by rfl) T.g_l_aodd T.F_l_aodd.kp T.b_l_aodd (a_cons (e_var 0) (a_cons (e_var 1) a_nil))) a_nil))) (e_sl (e_var 1) (p_some (e_op o_add (e_var 2) e_int)) p_none)))) b_nil)
  (b_cons (s_if (t_cmp (o_eq hu) (e_var 3) e_int (nomark _)) (b_one (s_ret (e_op o_add (e_sl (e_var 1) p_none (p_some (e_var 2))) (e_sl (e_var 1) (p_some (e_op o_add (e_var 2) e_int)) p_none)))) b_nil)
  (b_cons (s_if (t_cmp o_lt (e_var 3) e_int (nomark _)) (b_one (s_ret (e_op o_add (e_op o_add (e_sl (e_var 1) p_none (p_some (e_var 2))) (e_lst (a_cons (e_call (G_l_aodd) (hr.mono (by decide)) hgd (by rfl) T.g_l_aodd T.F_l_aodd.kp T.b_l_aodd (a_cons (e_var 0) (a_cons (e_var 1) a_nil))) a_nil))) (e_sl (e_var 1) (p_some (e_var 2)) p_none)))) b_nil)
  (b_cons (s_if (t_cmp (o_eq hu) (e_var 3) e_int (nomark _)) (b_cons (s_set 4 (e_call (G_l_adraw) (hr.mono (by decide)) hgd (by rfl) T.g_l_adraw T.F_l_adraw.kp T.b_l_adraw (a_cons (e_var 0) (a_cons (e_op o_add (e_callB c_len (by rfl) T.n_len (by decide +kernel) (a_cons (e_var 1) a_nil)) e_int) a_nil))) sc_l_abent.nd)
  (b_one (s_ret (e_op o_add (e_op o_add (e_sl (e_var 1) p_none (p_some (e_var 2))) (e_sl (e_var 1) (p_some (e_var 4)) (p_some (e_op o_add (e_var 4) e_int)))) (e_sl (e_var 1) (p_some (e_var 2)) p_none))))) b_nil)
  (b_cons (s_if (t_cmp (o_eq hu) (e_var 3) e_int (nomark _)) (b_one (s_ret (e_sl (e_var 1) p_none (p_some (e_callB (c_max rfl) (by rfl) T.n_max (by decide +kernel) (a_cons e_int (a_cons (e_var 2) a_nil))))))) b_nil)
  (b_cons (s_set 2 (e_ix (e_lst (a_cons (e_callB (c_max rfl) (by rfl) T.n_max (by decide +kernel) (a_cons e_int (a_cons (e_op o_sub (e_var 2) e_int) a_nil))) (a_cons (e_callB (c_max rfl) (by rfl) T.n_max (by decide +kernel) (a_cons e_int (a_cons (e_op o_sub (e_callB c_len (by rfl) T.n_len (by decide +kernel) (a_cons (e_var 1) a_nil)) e_int) a_nil))) a_nil))) (e_op o_sub (e_var 3) e_int)) sc_l_abent.nd)
  (b_one (s_ret (e_op o_add (e_op o_add (e_sl (e_var 1) p_none (p_some (e_var 2))) (e_lc [("_law_word", 5)] rfl sc_l_abent.nd (i_seq (e_sl (e_var 1) (p_some (e_var 2)) (p_some (e_op o_add (e_var 2) e_int)))) (blkOk_by (own := [("_law_word", 5)]) (N := N_l_abent) (sc := defScope s_l_abent) (by decide +kernel)) (fun _ _ _ _ _ => (g_name [5] 5 sc_l_abent.nd)) (fun _ _ _ _ _ => ts_nil) (fun _ _ _ _ _ => (e_call (G_l_asmeared) (hr.mono (by decide)) hgd (by rfl) T.g_l_asmeared T.F_l_asmeared.kp T.b_l_asmeared (a_cons (e_var 0) (a_cons (e_var 5) a_nil)))))) (e_sl (e_var 1) (p_some (e_op o_add (e_var 2) e_int)) p_none))))))))))))
theorem ok_l_adue : FnG P w K mg base 3 T.f_l_adue T.d_l_adue ["_law_rules", "_law_heights", "_law_words"] sp_l_adue := by
  have G_l_agood := ok_l_agood (P := P) (w := w) (base := base) T HB
  have G_l_ais_any_name := ok_l_ais_any_name (P := P) (w := w) (base := base) T HB
  refine fn_g T.F_l_adue sc_l_adue len_l_adue (g := W_l_adue) (fun cdv A outer s H hr hgd => ?_) w_l_adue
  have hu := hr.units
  exact (b_cons (s_set 3 (e_mlst (a_cons (e_tup (a_cons e_str (a_cons e_non a_nil))) a_nil)) sc_l_adue.nd)
  (b_cons (s_for PassesOwn.never rfl (i_rng1 (by rfl) T.n_range (a_cons (e_callB c_len (by rfl) T.n_len (by decide +kernel) (a_cons (e_var 2) a_nil)) a_nil)) (g_name [4] 4 sc_l_adue.nd)
  (b_cons (s_if (t_cmp (o_eqR hu) (e_var 3) (e_lst a_nil) (nomark _)) (b_one (s_ret (e_var 4))) b_nil)
  (b_cons (s_asg (e_bm0 PySem.F.plainAttrs_list PySem.F.slot_list_pop PySem.F.type_list_pop m_pop (e_var 3)) (g_tup rfl (gs_cons (g_name [5, 6] 5 sc_l_adue.nd) (gs_cons (g_name [5, 6] 6 sc_l_adue.nd) (gs_nil [5, 6])))))
  (b_one (s_if (t_cmp (o_eq hu) (e_var 5) e_str (nomark _)) (b_cons (s_if (t_w (t_or (t_cmp (o_ne hu) (e_ix (e_var 2) (e_var 4)) e_str (nomark _)) (t_or1 (t_cmp (o_eq hu) (e_call (G_l_agood) (hr.mono (by decide)) hgd (by rfl) T.g_l_agood T.F_l_agood.kp T.b_l_agood (a_cons (e_var 0) (a_cons (e_var 1) (a_cons (e_var 6) a_nil)))) (e_lst a_nil) (nomark _))))) (b_one (s_ret (e_var 4))) b_nil)
  (b_one (s_expr (e_bm PySem.F.plainAttrs_list PySem.F.slot_list_append PySem.F.type_list_append m_append (e_var 3) (a_cons (e_tup (a_cons e_str (a_cons (e_var 6) a_nil))) a_nil))))) (b_one (s_if (t_cmp (o_eq hu) (e_var 5) e_str (nomark _)) (b_cons (s_setLc 7 [("_law_number", 9)] rfl sc_l_adue.nd rfl rfl (sw_true rfl rfl rfl (by decide +kernel)) (i_seq (e_call (G_l_agood) (hr.mono (by decide)) hgd (by rfl) T.g_l_agood T.F_l_agood.kp T.b_l_agood (a_cons (e_var 0) (a_cons (e_var 1) (a_cons (e_var 6) a_nil))))) (blkOk_by (own := [("_law_number", 9)]) (N := N_l_adue) (sc := defScope s_l_adue) (by decide +kernel)) (fun _ _ _ _ _ => (g_name [9] 9 sc_l_adue.nd)) (fun _ _ _ _ _ => (ts_one (t_cmp (o_eq hu) (e_callTy c_strI (by rfl) T.n_str (by decide +kernel) (a_cons (e_var 9) a_nil)) (e_ix (e_var 2) (e_var 4)) (nomark _)))) (fun _ _ _ _ _ => (e_var 9)))
  (b_cons (s_if (t_cmp (o_eq hu) (e_var 7) (e_lst a_nil) (nomark _)) (b_one (s_ret (e_var 4))) b_nil)
  (b_cons (s_expr (e_bm PySem.F.plainAttrs_list PySem.F.slot_list_append PySem.F.type_list_append m_append (e_var 3) (a_cons (e_tup (a_cons e_str (a_cons e_str a_nil))) a_nil)))
  (b_one (s_for PassesOwn.never rfl (i_seq (e_rev (e_ix (e_ix (e_ix (e_var 0) e_int) (e_ix (e_var 7) e_int)) e_int))) (g_name [8] 8 sc_l_adue.nd)
  (b_one (s_expr (e_bm PySem.F.plainAttrs_list PySem.F.slot_list_append PySem.F.type_list_append m_append (e_var 3) (a_cons (e_tup (a_cons (e_if (t_val (e_call (G_l_ais_any_name) (hr.mono (by decide)) hgd (by rfl) T.g_l_ais_any_name T.F_l_ais_any_name.kp T.b_l_ais_any_name (a_cons (e_var 8) a_nil))) e_str e_str) (a_cons (e_var 8) a_nil))) a_nil))))))))) (b_one (s_if (t_cmp (o_ne hu) (e_ix (e_var 2) (e_var 4)) (e_var 6) (nomark _)) (b_one (s_ret (e_var 4))) b_nil)))))))))
  (b_one (s_ret (e_if (t_cmp (o_eqR hu) (e_var 3) (e_lst a_nil) (nomark _)) e_non (e_callB c_len (by rfl) T.n_len (by decide +kernel) (a_cons (e_var 2) a_nil)))))))
theorem ok_l_aright : FnG P w K mg base 201 T.f_l_aright T.d_l_aright ["_law_rules", "_law_heights", "_law_line"] sp_l_aright := by
  have G_l_atree_words := ok_l_atree_words (P := P) (w := w) (base := base) T HB 200
  have G_l_asame := ok_l_asame (P := P) (w := w) (base := base) T HB 4
  have G_l_anumbered := ok_l_anumbered (P := P) (w := w) (base := base) T HB
  have G_l_adue := ok_l_adue (P := P) (w := w) (base := base) T HB
  refine fn_g T.F_l_aright sc_l_aright len_l_aright (g := W_l_aright) (fun cdv A outer s H hr hgd => ?_) w_l_aright
  have hu := hr.units
  exact (b_cons (s_set 3 (e_bm PySem.F.plainAttrs_str PySem.F.slot_str_split PySem.F.type_str_split m_split (e_var 2) (a_cons e_str a_nil)) sc_l_aright.nd)
  (b_cons (s_set 4 (e_call (G_l_adue) (hr.mono (by decide)) hgd (by rfl) T.g_l_adue T.F_l_adue.kp T.b_l_adue (a_cons (e_var 0) (a_cons (e_var 1) (a_cons (e_var 3) a_nil)))) sc_l_aright.nd)
  (b_cons (s_asg (e_call (G_l_anumbered) (hr.mono (by decide)) hgd (by rfl) T.g_l_anumbered T.F_l_anumbered.kp T.b_l_anumbered (a_cons (e_gObj (by rfl) T.g_read_tree T.v_read_tree) (a_cons (e_tup (a_cons (e_var 0) (a_cons (e_var 2) a_nil))) a_nil))) (g_tup rfl (gs_cons (g_name [5, 6] 5 sc_l_aright.nd) (gs_cons (g_name [5, 6] 6 sc_l_aright.nd) (gs_nil [5, 6])))))
  (b_cons (s_if (t_cmp o_isNot (e_var 4) e_non (nomark _)) (b_one (s_ret (e_and (e_cmp (o_eq hu) (e_var 5) e_str (nomark _)) (e_one (e_call (G_l_asame) (hr.mono (by decide)) hgd (by rfl) T.g_l_asame T.F_l_asame.kp T.b_l_asame (a_cons (e_var 6) (a_cons (e_var 4) a_nil))))))) b_nil)
  (b_one (s_ret (e_and (e_cmp (o_eq hu) (e_var 5) e_str (nomark _)) (e_and (e_cmp (o_eq hu) (e_call (G_l_atree_words) (hr.mono (by decide)) hgd (by rfl) T.g_l_atree_words T.F_l_atree_words.kp T.b_l_atree_words (a_cons (e_var 6) a_nil)) (e_var 3) (nomark _)) (e_one (e_callB c_isi (by rfl) T.n_isinstance (by decide +kernel) (a_cons (e_var 6) (a_cons (e_gTy (by rfl) T.n_tuple (by decide +kernel)) a_nil))))))))))))
theorem ok_law : FnG P w K mg base 202 T.f_law T.d_law ["_law_script"] sp_law := by
  have G_l_aright := ok_l_aright (P := P) (w := w) (base := base) T HB
  have G_l_adraw := ok_l_adraw (P := P) (w := w) (base := base) T HB
  have G_l_abent := ok_l_abent (P := P) (w := w) (base := base) T HB
  have G_l_atree := ok_l_atree (P := P) (w := w) (base := base) T HB 30
  have G_l_atree_words := ok_l_atree_words (P := P) (w := w) (base := base) T HB 200
  have G_l_aheights := ok_l_aheights (P := P) (w := w) (base := base) T HB
  have G_l_awide_rules := ok_l_awide_rules (P := P) (w := w) (base := base) T HB
  have G_l_aopen := ok_l_aopen (P := P) (w := w) (base := base) T HB
  refine fn_g T.F_law sc_law len_law (g := W_law) (fun cdv A outer s H hr hgd => ?_) w_law
  have hu := hr.units
  exact (b_cons (s_set 1 (e_call (G_l_aopen) (hr.mono (by decide)) hgd (by rfl) T.g_l_aopen T.F_l_aopen.kp T.b_l_aopen (a_cons (e_var 0) a_nil)) sc_law.nd)
  (b_cons (s_for PassesOwn.never rfl (i_rng1 (by rfl) T.n_range (a_cons e_int a_nil)) (g_name [2] 2 sc_law.nd)
  (b_cons (s_set 3 (e_call (G_l_awide_rules) (hr.mono (by decide)) hgd (by rfl) T.g_l_awide_rules T.F_l_awide_rules.kp T.b_l_awide_rules (a_cons (e_var 1) a_nil)) sc_law.nd)
  (b_cons (s_set 4 (e_call (G_l_aheights) (hr.mono (by decide)) hgd (by rfl) T.g_l_aheights T.F_l_aheights.kp T.b_l_aheights (a_cons (e_var 3) a_nil)) sc_law.nd)
  (b_cons (s_set 5 (e_callB (c_sorted2 rfl hu) (by rfl) T.n_sorted (by decide +kernel) (a_cons (e_var 4) a_nil)) sc_law.nd)
  (b_cons (s_for PassesOwn.never rfl (i_seq (e_lst (a_cons e_str (a_cons e_str (a_cons e_str (a_cons e_str (a_cons e_str (a_cons e_str (a_cons e_str (a_cons e_str (a_cons e_str (a_cons e_str a_nil)))))))))))) (g_name [6] 6 sc_law.nd)
  (b_one (s_if (t_not (t_val (e_call (G_l_aright) (hr.mono (by decide)) hgd (by rfl) T.g_l_aright T.F_l_aright.kp T.b_l_aright (a_cons (e_var 3) (a_cons (e_var 4) (a_cons (e_var 6) a_nil)))))) (b_one (s_ret e_bl)) b_nil)))
  (b_one (s_for PassesOwn.never rfl (i_rng1 (by rfl) T.n_range (a_cons (e_op o_mul e_int (e_callTy c_int1 (by rfl) T.n_int (by decide +kernel) (a_cons (e_cmp (o_ne hu) (e_var 5) (e_lst a_nil) (nomark _)) a_nil))) a_nil)) (g_name [7] 7 sc_law.nd)
  (b_cons (s_set 8 (e_ix (e_var 5) (e_call (G_l_adraw) (hr.mono (by decide)) hgd (by rfl) T.g_l_adraw T.F_l_adraw.kp T.b_l_adraw (a_cons (e_var 1) (a_cons (e_callB c_len (by rfl) T.n_len (by decide +kernel) (a_cons (e_var 5) a_nil)) a_nil)))) sc_law.nd)
  (b_cons (s_set 9 (e_call (G_l_atree_words) (hr.mono (by decide)) hgd (by rfl) T.g_l_atree_words T.F_l_atree_words.kp T.b_l_atree_words (a_cons (e_call (G_l_atree) (hr.mono (by decide)) hgd (by rfl) T.g_l_atree T.F_l_atree.kp T.b_l_atree (a_cons (e_var 1) (a_cons (e_var 3) (a_cons (e_var 4) (a_cons (e_var 8) (a_cons (e_ix (e_lst (a_cons e_int (a_cons e_int (a_cons e_int (a_cons e_int a_nil))))) (e_call (G_l_adraw) (hr.mono (by decide)) hgd (by rfl) T.g_l_adraw T.F_l_adraw.kp T.b_l_adraw (a_cons (e_var 1) (a_cons e_int a_nil)))) a_nil)))))) a_nil)) sc_law.nd)
  (b_cons (s_if (t_cmp o_gt (e_callB c_len (by rfl) T.n_len (by decide +kernel) (a_cons (e_bm PySem.F.plainAttrs_str PySem.F.slot_str_join PySem.F.type_str_join m_join e_str (a_cons (e_var 9) a_nil)) a_nil)) e_int (nomark _)) (b_one (s_set 9 (e_sl (e_var 9) p_none (p_some e_int)) sc_law.nd)) b_nil)
  (b_cons (s_if (t_cmp o_gt (e_call (G_l_adraw) (hr.mono (by decide)) hgd (by rfl) T.g_l_adraw T.F_l_adraw.kp T.b_l_adraw (a_cons (e_var 1) (a_cons e_int a_nil))) e_int (nomark _)) (b_one (s_set 9 (e_call (G_l_abent) (hr.mono (by decide)) hgd (by rfl) T.g_l_abent T.F_l_abent.kp T.b_l_abent (a_cons (e_var 1) (a_cons (e_var 9) a_nil))) sc_law.nd)) b_nil)
  (b_cons (s_if (t_cmp (o_eq hu) (e_call (G_l_adraw) (hr.mono (by decide)) hgd (by rfl) T.g_l_adraw T.F_l_adraw.kp T.b_l_adraw (a_cons (e_var 1) (a_cons e_int a_nil))) e_int (nomark _)) (b_one (s_set 9 (e_call (G_l_abent) (hr.mono (by decide)) hgd (by rfl) T.g_l_abent T.F_l_abent.kp T.b_l_abent (a_cons (e_var 1) (a_cons (e_var 9) a_nil))) sc_law.nd)) b_nil)
  (b_one (s_if (t_not (t_val (e_call (G_l_aright) (hr.mono (by decide)) hgd (by rfl) T.g_l_aright T.F_l_aright.kp T.b_l_aright (a_cons (e_var 3) (a_cons (e_var 4) (a_cons (e_bm PySem.F.plainAttrs_str PySem.F.slot_str_join PySem.F.type_str_join m_join e_str (a_cons (e_var 9) a_nil)) a_nil)))))) (b_one (s_ret e_bl)) b_nil))))))))))))))
  (b_one (s_ret e_bl))))
end
theorem all_mk {P : Program} {w : World} {K : PySem.W.Frag} {h : Heap} {mg : Str → Option Value} {fa : Addr} (X : K.In h) (G : h.Ns mainGlobals mg) (hfa : mg "law" = some (.ref fa))
    {xC0 : Addr} (xa0 : PySem.W.nsIn K mainGlobals "Climb" = some (some (.ref xC0)))
    {xC1 : Addr} (xa1 : PySem.W.nsIn K mainGlobals "Endless" = some (some (.ref xC1)))
    {xC2 : Addr} (xa2 : PySem.W.nsIn K mainGlobals "NoBack" = some (some (.ref xC2)))
    {xC3 : Addr} (xa3 : PySem.W.nsIn K mainGlobals "NoBatch" = some (some (.ref xC3)))
    {xC4 : Addr} (xa4 : PySem.W.nsIn K mainGlobals "NoCut" = some (some (.ref xC4)))
    {xC5 : Addr} (xa5 : PySem.W.nsIn K mainGlobals "NoForbid" = some (some (.ref xC5)))
    {xC6 : Addr} (xa6 : PySem.W.nsIn K mainGlobals "NoMark" = some (some (.ref xC6)))
    {xC7 : Addr} (xa7 : PySem.W.nsIn K mainGlobals "NoPiece" = some (some (.ref xC7)))
    {xC8 : Addr} (xa8 : PySem.W.nsIn K mainGlobals "NoPlace" = some (some (.ref xC8)))
    {xC9 : Addr} (xa9 : PySem.W.nsIn K mainGlobals "NoRow" = some (some (.ref xC9)))
    {xC10 : Addr} (xa10 : PySem.W.nsIn K mainGlobals "NoSign" = some (some (.ref xC10)))
    {xC11 : Addr} (xa11 : PySem.W.nsIn K mainGlobals "NoStretch" = some (some (.ref xC11)))
    {xC12 : Addr} (xa12 : PySem.W.nsIn K mainGlobals "NoText" = some (some (.ref xC12)))
    {xC13 : Addr} (xa13 : PySem.W.nsIn K mainGlobals "ReadError" = some (some (.ref xC13)))
    {xC14 : Addr} (xa14 : PySem.W.nsIn K mainGlobals "TooLong" = some (some (.ref xC14)))
    {f1 : Addr} {od1 an1 : Option Addr} {sl1 : Array (Option Value)} {oc1 kV1 dc1 pm1 cd1 ct1 : Value}
    (a1 : PySem.W.nsIn K mainGlobals "is_name" = some (some (.ref f1))) (l1 : K.lookup f1 = some ⟨oc1, od1, .func (PySem.W.fnOf "is_name" "is_name" (defArgs s_is_name) (defBody s_is_name) (defScope s_is_name) .none kV1 dc1 pm1 an1 cd1 ct1), sl1⟩) (c1 : PySem.W.codeIn K cd1 "is_name" = true) (k1 : PySem.W.keepIn K (.ref f1) = true)
    {f2 : Addr} {od2 an2 : Option Addr} {sl2 : Array (Option Value)} {oc2 kV2 dc2 pm2 cd2 ct2 : Value}
    (a2 : PySem.W.nsIn K mainGlobals "whole_names" = some (some (.ref f2))) (l2 : K.lookup f2 = some ⟨oc2, od2, .func (PySem.W.fnOf "whole_names" "whole_names" (defArgs s_whole_names) (defBody s_whole_names) (defScope s_whole_names) .none kV2 dc2 pm2 an2 cd2 ct2), sl2⟩) (c2 : PySem.W.codeIn K cd2 "whole_names" = true) (k2 : PySem.W.keepIn K (.ref f2) = true)
    {f3 : Addr} {od3 an3 : Option Addr} {sl3 : Array (Option Value)} {oc3 kV3 dc3 pm3 cd3 ct3 : Value}
    (a3 : PySem.W.nsIn K mainGlobals "fruitful" = some (some (.ref f3))) (l3 : K.lookup f3 = some ⟨oc3, od3, .func (PySem.W.fnOf "fruitful" "fruitful" (defArgs s_fruitful) (defBody s_fruitful) (defScope s_fruitful) .none kV3 dc3 pm3 an3 cd3 ct3), sl3⟩) (c3 : PySem.W.codeIn K cd3 "fruitful" = true) (k3 : PySem.W.keepIn K (.ref f3) = true)
    {f4 : Addr} {od4 an4 : Option Addr} {sl4 : Array (Option Value)} {oc4 kV4 dc4 pm4 cd4 ct4 : Value}
    (a4 : PySem.W.nsIn K mainGlobals "good_rows" = some (some (.ref f4))) (l4 : K.lookup f4 = some ⟨oc4, od4, .func (PySem.W.fnOf "good_rows" "good_rows" (defArgs s_good_rows) (defBody s_good_rows) (defScope s_good_rows) .none kV4 dc4 pm4 an4 cd4 ct4), sl4⟩) (c4 : PySem.W.codeIn K cd4 "good_rows" = true) (k4 : PySem.W.keepIn K (.ref f4) = true)
    {f5 : Addr} {od5 an5 : Option Addr} {sl5 : Array (Option Value)} {oc5 kV5 dc5 pm5 cd5 ct5 : Value}
    (a5 : PySem.W.findIn K (.ref xC0) "begins" = some (some (.ref f5))) (i5 : PySem.W.isFn K (.ref f5) = true) (l5 : K.lookup f5 = some ⟨oc5, od5, .func (PySem.W.fnOf "begins" "Climb.begins" (defArgs s_Climb_begins) (defBody s_Climb_begins) (defScope s_Climb_begins) .none kV5 dc5 pm5 an5 cd5 ct5), sl5⟩) (c5 : PySem.W.codeIn K cd5 "Climb.begins" = true) (k5 : PySem.W.keepIn K (.ref f5) = true)
    {f6 : Addr} {od6 an6 : Option Addr} {sl6 : Array (Option Value)} {oc6 kV6 dc6 pm6 cd6 ct6 : Value}
    (a6 : PySem.W.findIn K (.ref xC0) "ends" = some (some (.ref f6))) (i6 : PySem.W.isFn K (.ref f6) = true) (l6 : K.lookup f6 = some ⟨oc6, od6, .func (PySem.W.fnOf "ends" "Climb.ends" (defArgs s_Climb_ends) (defBody s_Climb_ends) (defScope s_Climb_ends) .none kV6 dc6 pm6 an6 cd6 ct6), sl6⟩) (c6 : PySem.W.codeIn K cd6 "Climb.ends" = true) (k6 : PySem.W.keepIn K (.ref f6) = true)
    {f7 : Addr} {od7 an7 : Option Addr} {sl7 : Array (Option Value)} {oc7 kV7 dc7 pm7 cd7 ct7 : Value}
    (a7 : PySem.W.findIn K (.ref xC0) "takes_rule" = some (some (.ref f7))) (i7 : PySem.W.isFn K (.ref f7) = true) (l7 : K.lookup f7 = some ⟨oc7, od7, .func (PySem.W.fnOf "takes_rule" "Climb.takes_rule" (defArgs s_Climb_takes_rule) (defBody s_Climb_takes_rule) (defScope s_Climb_takes_rule) .none kV7 dc7 pm7 an7 cd7 ct7), sl7⟩) (c7 : PySem.W.codeIn K cd7 "Climb.takes_rule" = true) (k7 : PySem.W.keepIn K (.ref f7) = true)
    {f8 : Addr} {od8 an8 : Option Addr} {sl8 : Array (Option Value)} {oc8 kV8 dc8 pm8 cd8 ct8 : Value}
    (a8 : PySem.W.findIn K (.ref xC0) "takes" = some (some (.ref f8))) (i8 : PySem.W.isFn K (.ref f8) = true) (l8 : K.lookup f8 = some ⟨oc8, od8, .func (PySem.W.fnOf "takes" "Climb.takes" (defArgs s_Climb_takes) (defBody s_Climb_takes) (defScope s_Climb_takes) .none kV8 dc8 pm8 an8 cd8 ct8), sl8⟩) (c8 : PySem.W.codeIn K cd8 "Climb.takes" = true) (k8 : PySem.W.keepIn K (.ref f8) = true)
    {f9 : Addr} {od9 an9 : Option Addr} {sl9 : Array (Option Value)} {oc9 kV9 dc9 pm9 cd9 ct9 : Value}
    (a9 : PySem.W.findIn K (.ref xC0) "__init__" = some (some (.ref f9))) (i9 : PySem.W.isFn K (.ref f9) = true) (l9 : K.lookup f9 = some ⟨oc9, od9, .func (PySem.W.fnOf "__init__" "Climb.__init__" (defArgs s_Climb___init__) (defBody s_Climb___init__) (defScope s_Climb___init__) .none kV9 dc9 pm9 an9 cd9 ct9), sl9⟩) (c9 : PySem.W.codeIn K cd9 "Climb.__init__" = true) (k9 : PySem.W.keepIn K (.ref f9) = true)
    {f10 : Addr} {od10 an10 : Option Addr} {sl10 : Array (Option Value)} {oc10 kV10 dc10 pm10 cd10 ct10 : Value}
    (a10 : PySem.W.nsIn K mainGlobals "read_tree" = some (some (.ref f10))) (l10 : K.lookup f10 = some ⟨oc10, od10, .func (PySem.W.fnOf "read_tree" "read_tree" (defArgs s_read_tree) (defBody s_read_tree) (defScope s_read_tree) .none kV10 dc10 pm10 an10 cd10 ct10), sl10⟩) (c10 : PySem.W.codeIn K cd10 "read_tree" = true) (k10 : PySem.W.keepIn K (.ref f10) = true)
    {f11 : Addr} {od11 an11 : Option Addr} {sl11 : Array (Option Value)} {oc11 kV11 dc11 pm11 cd11 ct11 : Value}
    (a11 : PySem.W.nsIn K mainGlobals "_law_amixed" = some (some (.ref f11))) (l11 : K.lookup f11 = some ⟨oc11, od11, .func (PySem.W.fnOf "_law_amixed" "_law_amixed" (defArgs s_l_amixed) (defBody s_l_amixed) (defScope s_l_amixed) .none kV11 dc11 pm11 an11 cd11 ct11), sl11⟩) (c11 : PySem.W.codeIn K cd11 "_law_amixed" = true) (k11 : PySem.W.keepIn K (.ref f11) = true)
    {f12 : Addr} {od12 an12 : Option Addr} {sl12 : Array (Option Value)} {oc12 kV12 dc12 pm12 cd12 ct12 : Value}
    (a12 : PySem.W.nsIn K mainGlobals "_law_aopen" = some (some (.ref f12))) (l12 : K.lookup f12 = some ⟨oc12, od12, .func (PySem.W.fnOf "_law_aopen" "_law_aopen" (defArgs s_l_aopen) (defBody s_l_aopen) (defScope s_l_aopen) .none kV12 dc12 pm12 an12 cd12 ct12), sl12⟩) (c12 : PySem.W.codeIn K cd12 "_law_aopen" = true) (k12 : PySem.W.keepIn K (.ref f12) = true)
    {f13 : Addr} {od13 an13 : Option Addr} {sl13 : Array (Option Value)} {oc13 kV13 dc13 pm13 cd13 ct13 : Value}
    (a13 : PySem.W.nsIn K mainGlobals "_law_adraw" = some (some (.ref f13))) (l13 : K.lookup f13 = some ⟨oc13, od13, .func (PySem.W.fnOf "_law_adraw" "_law_adraw" (defArgs s_l_adraw) (defBody s_l_adraw) (defScope s_l_adraw) .none kV13 dc13 pm13 an13 cd13 ct13), sl13⟩) (c13 : PySem.W.codeIn K cd13 "_law_adraw" = true) (k13 : PySem.W.keepIn K (.ref f13) = true)
    {f14 : Addr} {od14 an14 : Option Addr} {sl14 : Array (Option Value)} {oc14 kV14 dc14 pm14 cd14 ct14 : Value}
    (a14 : PySem.W.nsIn K mainGlobals "_law_ais_name" = some (some (.ref f14))) (l14 : K.lookup f14 = some ⟨oc14, od14, .func (PySem.W.fnOf "_law_ais_name" "_law_ais_name" (defArgs s_l_ais_name) (defBody s_l_ais_name) (defScope s_l_ais_name) .none kV14 dc14 pm14 an14 cd14 ct14), sl14⟩) (c14 : PySem.W.codeIn K cd14 "_law_ais_name" = true) (k14 : PySem.W.keepIn K (.ref f14) = true)
    {f15 : Addr} {od15 an15 : Option Addr} {sl15 : Array (Option Value)} {oc15 kV15 dc15 pm15 cd15 ct15 : Value}
    (a15 : PySem.W.nsIn K mainGlobals "_law_akind" = some (some (.ref f15))) (l15 : K.lookup f15 = some ⟨oc15, od15, .func (PySem.W.fnOf "_law_akind" "_law_akind" (defArgs s_l_akind) (defBody s_l_akind) (defScope s_l_akind) .none kV15 dc15 pm15 an15 cd15 ct15), sl15⟩) (c15 : PySem.W.codeIn K cd15 "_law_akind" = true) (k15 : PySem.W.keepIn K (.ref f15) = true)
    {f16 : Addr} {od16 an16 : Option Addr} {sl16 : Array (Option Value)} {oc16 kV16 dc16 pm16 cd16 ct16 : Value}
    (a16 : PySem.W.nsIn K mainGlobals "_law_aword" = some (some (.ref f16))) (l16 : K.lookup f16 = some ⟨oc16, od16, .func (PySem.W.fnOf "_law_aword" "_law_aword" (defArgs s_l_aword) (defBody s_l_aword) (defScope s_l_aword) .none kV16 dc16 pm16 an16 cd16 ct16), sl16⟩) (c16 : PySem.W.codeIn K cd16 "_law_aword" = true) (k16 : PySem.W.keepIn K (.ref f16) = true)
    {f17 : Addr} {od17 an17 : Option Addr} {sl17 : Array (Option Value)} {oc17 kV17 dc17 pm17 cd17 ct17 : Value}
    (a17 : PySem.W.nsIn K mainGlobals "_law_aall_signs" = some (some (.ref f17))) (l17 : K.lookup f17 = some ⟨oc17, od17, .func (PySem.W.fnOf "_law_aall_signs" "_law_aall_signs" (defArgs s_l_aall_signs) (defBody s_l_aall_signs) (defScope s_l_aall_signs) .none kV17 dc17 pm17 an17 cd17 ct17), sl17⟩) (c17 : PySem.W.codeIn K cd17 "_law_aall_signs" = true) (k17 : PySem.W.keepIn K (.ref f17) = true)
    {f18 : Addr} {od18 an18 : Option Addr} {sl18 : Array (Option Value)} {oc18 kV18 dc18 pm18 cd18 ct18 : Value}
    (a18 : PySem.W.nsIn K mainGlobals "_law_awide_rules" = some (some (.ref f18))) (l18 : K.lookup f18 = some ⟨oc18, od18, .func (PySem.W.fnOf "_law_awide_rules" "_law_awide_rules" (defArgs s_l_awide_rules) (defBody s_l_awide_rules) (defScope s_l_awide_rules) .none kV18 dc18 pm18 an18 cd18 ct18), sl18⟩) (c18 : PySem.W.codeIn K cd18 "_law_awide_rules" = true) (k18 : PySem.W.keepIn K (.ref f18) = true)
    {f19 : Addr} {od19 an19 : Option Addr} {sl19 : Array (Option Value)} {oc19 kV19 dc19 pm19 cd19 ct19 : Value}
    (a19 : PySem.W.nsIn K mainGlobals "_law_atree_words" = some (some (.ref f19))) (l19 : K.lookup f19 = some ⟨oc19, od19, .func (PySem.W.fnOf "_law_atree_words" "_law_atree_words" (defArgs s_l_atree_words) (defBody s_l_atree_words) (defScope s_l_atree_words) .none kV19 dc19 pm19 an19 cd19 ct19), sl19⟩) (c19 : PySem.W.codeIn K cd19 "_law_atree_words" = true) (k19 : PySem.W.keepIn K (.ref f19) = true)
    {f20 : Addr} {od20 an20 : Option Addr} {sl20 : Array (Option Value)} {oc20 kV20 dc20 pm20 cd20 ct20 : Value}
    (a20 : PySem.W.nsIn K mainGlobals "_law_aheights" = some (some (.ref f20))) (l20 : K.lookup f20 = some ⟨oc20, od20, .func (PySem.W.fnOf "_law_aheights" "_law_aheights" (defArgs s_l_aheights) (defBody s_l_aheights) (defScope s_l_aheights) .none kV20 dc20 pm20 an20 cd20 ct20), sl20⟩) (c20 : PySem.W.codeIn K cd20 "_law_aheights" = true) (k20 : PySem.W.keepIn K (.ref f20) = true)
    {f21 : Addr} {od21 an21 : Option Addr} {sl21 : Array (Option Value)} {oc21 kV21 dc21 pm21 cd21 ct21 : Value}
    (a21 : PySem.W.nsIn K mainGlobals "_law_agood" = some (some (.ref f21))) (l21 : K.lookup f21 = some ⟨oc21, od21, .func (PySem.W.fnOf "_law_agood" "_law_agood" (defArgs s_l_agood) (defBody s_l_agood) (defScope s_l_agood) .none kV21 dc21 pm21 an21 cd21 ct21), sl21⟩) (c21 : PySem.W.codeIn K cd21 "_law_agood" = true) (k21 : PySem.W.keepIn K (.ref f21) = true)
    {f22 : Addr} {od22 an22 : Option Addr} {sl22 : Array (Option Value)} {oc22 kV22 dc22 pm22 cd22 ct22 : Value}
    (a22 : PySem.W.nsIn K mainGlobals "_law_ahigh" = some (some (.ref f22))) (l22 : K.lookup f22 = some ⟨oc22, od22, .func (PySem.W.fnOf "_law_ahigh" "_law_ahigh" (defArgs s_l_ahigh) (defBody s_l_ahigh) (defScope s_l_ahigh) .none kV22 dc22 pm22 an22 cd22 ct22), sl22⟩) (c22 : PySem.W.codeIn K cd22 "_law_ahigh" = true) (k22 : PySem.W.keepIn K (.ref f22) = true)
    {f23 : Addr} {od23 an23 : Option Addr} {sl23 : Array (Option Value)} {oc23 kV23 dc23 pm23 cd23 ct23 : Value}
    (a23 : PySem.W.nsIn K mainGlobals "_law_atree" = some (some (.ref f23))) (l23 : K.lookup f23 = some ⟨oc23, od23, .func (PySem.W.fnOf "_law_atree" "_law_atree" (defArgs s_l_atree) (defBody s_l_atree) (defScope s_l_atree) .none kV23 dc23 pm23 an23 cd23 ct23), sl23⟩) (c23 : PySem.W.codeIn K cd23 "_law_atree" = true) (k23 : PySem.W.keepIn K (.ref f23) = true)
    {f24 : Addr} {od24 an24 : Option Addr} {sl24 : Array (Option Value)} {oc24 kV24 dc24 pm24 cd24 ct24 : Value}
    (a24 : PySem.W.nsIn K mainGlobals "_law_asame" = some (some (.ref f24))) (l24 : K.lookup f24 = some ⟨oc24, od24, .func (PySem.W.fnOf "_law_asame" "_law_asame" (defArgs s_l_asame) (defBody s_l_asame) (defScope s_l_asame) .none kV24 dc24 pm24 an24 cd24 ct24), sl24⟩) (c24 : PySem.W.codeIn K cd24 "_law_asame" = true) (k24 : PySem.W.keepIn K (.ref f24) = true)
    {f25 : Addr} {od25 an25 : Option Addr} {sl25 : Array (Option Value)} {oc25 kV25 dc25 pm25 cd25 ct25 : Value}
    (a25 : PySem.W.nsIn K mainGlobals "_law_anumbered" = some (some (.ref f25))) (l25 : K.lookup f25 = some ⟨oc25, od25, .func (PySem.W.fnOf "_law_anumbered" "_law_anumbered" (defArgs s_l_anumbered) (defBody s_l_anumbered) (defScope s_l_anumbered) .none kV25 dc25 pm25 an25 cd25 ct25), sl25⟩) (c25 : PySem.W.codeIn K cd25 "_law_anumbered" = true) (k25 : PySem.W.keepIn K (.ref f25) = true)
    {f26 : Addr} {od26 an26 : Option Addr} {sl26 : Array (Option Value)} {oc26 kV26 dc26 pm26 cd26 ct26 : Value}
    (a26 : PySem.W.nsIn K mainGlobals "_law_ais_any_name" = some (some (.ref f26))) (l26 : K.lookup f26 = some ⟨oc26, od26, .func (PySem.W.fnOf "_law_ais_any_name" "_law_ais_any_name" (defArgs s_l_ais_any_name) (defBody s_l_ais_any_name) (defScope s_l_ais_any_name) .none kV26 dc26 pm26 an26 cd26 ct26), sl26⟩) (c26 : PySem.W.codeIn K cd26 "_law_ais_any_name" = true) (k26 : PySem.W.keepIn K (.ref f26) = true)
    {f27 : Addr} {od27 an27 : Option Addr} {sl27 : Array (Option Value)} {oc27 kV27 dc27 pm27 cd27 ct27 : Value}
    (a27 : PySem.W.nsIn K mainGlobals "_law_aodd" = some (some (.ref f27))) (l27 : K.lookup f27 = some ⟨oc27, od27, .func (PySem.W.fnOf "_law_aodd" "_law_aodd" (defArgs s_l_aodd) (defBody s_l_aodd) (defScope s_l_aodd) .none kV27 dc27 pm27 an27 cd27 ct27), sl27⟩) (c27 : PySem.W.codeIn K cd27 "_law_aodd" = true) (k27 : PySem.W.keepIn K (.ref f27) = true)
    {f28 : Addr} {od28 an28 : Option Addr} {sl28 : Array (Option Value)} {oc28 kV28 dc28 pm28 cd28 ct28 : Value}
    (a28 : PySem.W.nsIn K mainGlobals "_law_asmeared" = some (some (.ref f28))) (l28 : K.lookup f28 = some ⟨oc28, od28, .func (PySem.W.fnOf "_law_asmeared" "_law_asmeared" (defArgs s_l_asmeared) (defBody s_l_asmeared) (defScope s_l_asmeared) .none kV28 dc28 pm28 an28 cd28 ct28), sl28⟩) (c28 : PySem.W.codeIn K cd28 "_law_asmeared" = true) (k28 : PySem.W.keepIn K (.ref f28) = true)
    {f29 : Addr} {od29 an29 : Option Addr} {sl29 : Array (Option Value)} {oc29 kV29 dc29 pm29 cd29 ct29 : Value}
    (a29 : PySem.W.nsIn K mainGlobals "_law_abent" = some (some (.ref f29))) (l29 : K.lookup f29 = some ⟨oc29, od29, .func (PySem.W.fnOf "_law_abent" "_law_abent" (defArgs s_l_abent) (defBody s_l_abent) (defScope s_l_abent) .none kV29 dc29 pm29 an29 cd29 ct29), sl29⟩) (c29 : PySem.W.codeIn K cd29 "_law_abent" = true) (k29 : PySem.W.keepIn K (.ref f29) = true)
    {f30 : Addr} {od30 an30 : Option Addr} {sl30 : Array (Option Value)} {oc30 kV30 dc30 pm30 cd30 ct30 : Value}
    (a30 : PySem.W.nsIn K mainGlobals "_law_adue" = some (some (.ref f30))) (l30 : K.lookup f30 = some ⟨oc30, od30, .func (PySem.W.fnOf "_law_adue" "_law_adue" (defArgs s_l_adue) (defBody s_l_adue) (defScope s_l_adue) .none kV30 dc30 pm30 an30 cd30 ct30), sl30⟩) (c30 : PySem.W.codeIn K cd30 "_law_adue" = true) (k30 : PySem.W.keepIn K (.ref f30) = true)
    {f31 : Addr} {od31 an31 : Option Addr} {sl31 : Array (Option Value)} {oc31 kV31 dc31 pm31 cd31 ct31 : Value}
    (a31 : PySem.W.nsIn K mainGlobals "_law_aright" = some (some (.ref f31))) (l31 : K.lookup f31 = some ⟨oc31, od31, .func (PySem.W.fnOf "_law_aright" "_law_aright" (defArgs s_l_aright) (defBody s_l_aright) (defScope s_l_aright) .none kV31 dc31 pm31 an31 cd31 ct31), sl31⟩) (c31 : PySem.W.codeIn K cd31 "_law_aright" = true) (k31 : PySem.W.keepIn K (.ref f31) = true)
    {f32 : Addr} {od32 an32 : Option Addr} {sl32 : Array (Option Value)} {oc32 kV32 dc32 pm32 cd32 ct32 : Value}
    (a32 : PySem.W.nsIn K mainGlobals "law" = some (some (.ref f32))) (l32 : K.lookup f32 = some ⟨oc32, od32, .func (PySem.W.fnOf "law" "law" (defArgs s_law) (defBody s_law) (defScope s_law) .none kV32 dc32 pm32 an32 cd32 ct32), sl32⟩) (c32 : PySem.W.codeIn K cd32 "law" = true) (k32 : PySem.W.keepIn K (.ref f32) = true)
    {tk0 : Tok} (x0 : PySem.W.nsIn K mainGlobals "FIGURES" = some (some (.str k_FIGURES tk0)))
    {tk1 : Tok} (x1 : PySem.W.nsIn K mainGlobals "GREAT" = some (some (.str k_GREAT tk1)))
    {tk2 : Tok} (x2 : PySem.W.nsIn K mainGlobals "MOST_LETTERS" = some (some (.int 6 tk2)))
    {tk3 : Tok} (x3 : PySem.W.nsIn K mainGlobals "SMALL" = some (some (.str k_SMALL tk3)))
    (z0 : PySem.W.nsIn K mainGlobals "ValueError" = some none)
    (z1 : PySem.W.nsIn K mainGlobals "all" = some none)
    (z2 : PySem.W.nsIn K mainGlobals "bool" = some none)
    (z3 : PySem.W.nsIn K mainGlobals "enumerate" = some none)
    (z4 : PySem.W.nsIn K mainGlobals "int" = some none)
    (z5 : PySem.W.nsIn K mainGlobals "isinstance" = some none)
    (z6 : PySem.W.nsIn K mainGlobals "len" = some none)
    (z7 : PySem.W.nsIn K mainGlobals "list" = some none)
    (z8 : PySem.W.nsIn K mainGlobals "max" = some none)
    (z9 : PySem.W.nsIn K mainGlobals "min" = some none)
    (z10 : PySem.W.nsIn K mainGlobals "range" = some none)
    (z11 : PySem.W.nsIn K mainGlobals "sorted" = some none)
    (z12 : PySem.W.nsIn K mainGlobals "str" = some none)
    (z13 : PySem.W.nsIn K mainGlobals "tuple" = some none)
    (z14 : PySem.W.nsIn K mainGlobals "zip" = some none)
    (y3 : lamDB K "fruitful" f3 = true)
    (xins : insB K itb = true)
    (xm0 : PySem.W.makesIn K xC0 = true) (xo0 : PySem.W.keepIn K (.ref xC0) = true)
    (xcls : clsB K tbl = true)
    {f33 : Addr} {od33 an33 : Option Addr} {sl33 : Array (Option Value)} {oc33 kV33 dc33 pm33 cd33 ct33 : Value}
    (xi12 : PySem.W.findIn K (.ref xC12) "__init__" = some (some (.ref f33))) (xt12 : PySem.W.typeIn K (.ref f33) = some (.type "function")) (xl12 : K.lookup f33 = some ⟨oc33, od33, .func (PySem.W.fnOf "__init__" "NoText.__init__" (defArgs s_NoText_i) (defBody s_NoText_i) (defScope s_NoText_i) .none kV33 dc33 pm33 an33 cd33 ct33), sl33⟩) (xc12 : PySem.W.codeIn K cd33 "NoText.__init__" = true) (xf12 : PySem.W.keepIn K (.ref f33) = true)
    {nm12 q12 : Str} {N12 : Addr} {bs12 : List Value} {sn12 : List Str} {sub12 : List Value} {ab12 : Bool} {col12 : Option Bool} {dd12 : Option Addr} {ma12 mb12 mc12 md12 me12 : Option Value} {bm12 : List Value}
    (xL12 : K.lookup xC12 = some (excClassObj nm12 q12 xC12 N12 bs12 bm12 true sn12 sub12 ab12 col12 dd12 ma12 mb12 mc12 md12 me12 "ValueError.__new__")) (xv12 : PySem.HandSPX.refsVE bm12 = true)
    (xs12 : PySem.W.findIn K (.ref xC12) "__setattr__" = some (some (.builtin "object.__setattr__"))) (xe12 : PySem.W.subIn K (.ref xC12) (.type "BaseException") = some true) (xy12 : PySem.W.typeIn K (.ref xC12) = some (.type "type")) (xp12 : PySem.W.keepIn K (.ref xC12) = true) (xn12 : PySem.W.findIn K (.ref xC12) "at" = some none)
    (xr12 : PySem.W.specialIn K (.ref xC13) "__getattribute__" = some (some (.builtin "type.__getattribute__"))) (xu12 : PySem.W.readsIn K xC13 (.type "type") = true) (xw12 : PySem.W.findCls K (.ref xC13) (.type "type") "__init__" = some (.val (.builtin "ValueError.__init__")))
    : ∃ fd : FuncData, (∀ (s : Shared) (v : Value), BindsTo s fd ⟨[v], []⟩ [("_law_script", v)]) ∧ ∀ base : Heap, K.In base → base.Ns mainGlobals mg → (∀ t ∈ lamTabs K, LamX.TabB base mg t.2.2.1 t.2.2.2) → FnG P w K mg base 202 fa fd ["_law_script"] sp_law := by
  have e := hfa.symm.trans (PySem.W.mg_of X G a32)
  cases e
  have F33 := fun_mk (st := s_NoText_i) xl12 xc12 xf12
  have F1 := fun_mk (st := s_is_name) l1 c1 k1
  have F2 := fun_mk (st := s_whole_names) l2 c2 k2
  have F3 := fun_mk (st := s_fruitful) l3 c3 k3
  have F4 := fun_mk (st := s_good_rows) l4 c4 k4
  have F5 := fun_mk (st := s_Climb_begins) l5 c5 k5
  have F6 := fun_mk (st := s_Climb_ends) l6 c6 k6
  have F7 := fun_mk (st := s_Climb_takes_rule) l7 c7 k7
  have F8 := fun_mk (st := s_Climb_takes) l8 c8 k8
  have F9 := fun_mk (st := s_Climb___init__) l9 c9 k9
  have F10 := fun_mk (st := s_read_tree) l10 c10 k10
  have F11 := fun_mk (st := s_l_amixed) l11 c11 k11
  have F12 := fun_mk (st := s_l_aopen) l12 c12 k12
  have F13 := fun_mk (st := s_l_adraw) l13 c13 k13
  have F14 := fun_mk (st := s_l_ais_name) l14 c14 k14
  have F15 := fun_mk (st := s_l_akind) l15 c15 k15
  have F16 := fun_mk (st := s_l_aword) l16 c16 k16
  have F17 := fun_mk (st := s_l_aall_signs) l17 c17 k17
  have F18 := fun_mk (st := s_l_awide_rules) l18 c18 k18
  have F19 := fun_mk (st := s_l_atree_words) l19 c19 k19
  have F20 := fun_mk (st := s_l_aheights) l20 c20 k20
  have F21 := fun_mk (st := s_l_agood) l21 c21 k21
  have F22 := fun_mk (st := s_l_ahigh) l22 c22 k22
  have F23 := fun_mk (st := s_l_atree) l23 c23 k23
  have F24 := fun_mk (st := s_l_asame) l24 c24 k24
  have F25 := fun_mk (st := s_l_anumbered) l25 c25 k25
  have F26 := fun_mk (st := s_l_ais_any_name) l26 c26 k26
  have F27 := fun_mk (st := s_l_aodd) l27 c27 k27
  have F28 := fun_mk (st := s_l_asmeared) l28 c28 k28
  have F29 := fun_mk (st := s_l_abent) l29 c29 k29
  have F30 := fun_mk (st := s_l_adue) l30 c30 k30
  have F31 := fun_mk (st := s_l_aright) l31 c31 k31
  have F32 := fun_mk (st := s_law) l32 c32 k32
  let T : Txt K mg := {
    f_Climb_begins := f5, d_Climb_begins := (PySem.W.fnOf "begins" "Climb.begins" (defArgs s_Climb_begins) (defBody s_Climb_begins) (defScope s_Climb_begins) .none kV5 dc5 pm5 an5 cd5 ct5), F_Climb_begins := F5, b_Climb_begins := F5.binds (ps := ["self", "word", "head"]) fun _ _ _ _ _ _ us hl => match us, hl with | [_, _, _], _ => rfl,
    m_Climb_begins := ⟨xa0, (ins_row xins xa0 (by decide +kernel : hasF itb "Climb" "known" = true)).1, ⟨a5, i5, k5⟩⟩,
    f_Climb_ends := f6, d_Climb_ends := (PySem.W.fnOf "ends" "Climb.ends" (defArgs s_Climb_ends) (defBody s_Climb_ends) (defScope s_Climb_ends) .none kV6 dc6 pm6 an6 cd6 ct6), F_Climb_ends := F6, b_Climb_ends := F6.binds (ps := ["self"]) fun _ _ _ _ _ _ us hl => match us, hl with | [_], _ => rfl,
    m_Climb_ends := ⟨xa0, (ins_row xins xa0 (by decide +kernel : hasF itb "Climb" "known" = true)).1, ⟨a6, i6, k6⟩⟩,
    f_Climb_takes_rule := f7, d_Climb_takes_rule := (PySem.W.fnOf "takes_rule" "Climb.takes_rule" (defArgs s_Climb_takes_rule) (defBody s_Climb_takes_rule) (defScope s_Climb_takes_rule) .none kV7 dc7 pm7 an7 cd7 ct7), F_Climb_takes_rule := F7, b_Climb_takes_rule := F7.binds (ps := ["self", "word"]) fun _ _ _ _ _ _ us hl => match us, hl with | [_, _], _ => rfl,
    m_Climb_takes_rule := ⟨xa0, (ins_row xins xa0 (by decide +kernel : hasF itb "Climb" "known" = true)).1, ⟨a7, i7, k7⟩⟩,
    f_Climb_takes := f8, d_Climb_takes := (PySem.W.fnOf "takes" "Climb.takes" (defArgs s_Climb_takes) (defBody s_Climb_takes) (defScope s_Climb_takes) .none kV8 dc8 pm8 an8 cd8 ct8), F_Climb_takes := F8, b_Climb_takes := F8.binds (ps := ["self", "word"]) fun _ _ _ _ _ _ us hl => match us, hl with | [_, _], _ => rfl,
    m_Climb_takes := ⟨xa0, (ins_row xins xa0 (by decide +kernel : hasF itb "Climb" "known" = true)).1, ⟨a8, i8, k8⟩⟩,
    f_Climb___init__ := f9, d_Climb___init__ := (PySem.W.fnOf "__init__" "Climb.__init__" (defArgs s_Climb___init__) (defBody s_Climb___init__) (defScope s_Climb___init__) .none kV9 dc9 pm9 an9 cd9 ct9), F_Climb___init__ := F9, b_Climb___init__ := F9.binds (ps := ["self", "rules"]) fun _ _ _ _ _ _ us hl => match us, hl with | [_, _], _ => rfl,
    mk_Climb := ⟨xm0, a9, i9, xo0⟩,
    f_is_name := f1, d_is_name := (PySem.W.fnOf "is_name" "is_name" (defArgs s_is_name) (defBody s_is_name) (defScope s_is_name) .none kV1 dc1 pm1 an1 cd1 ct1), F_is_name := F1, g_is_name := PySem.W.mg_of X G a1, b_is_name := F1.binds (ps := ["thing"]) fun _ _ _ _ _ _ us hl => match us, hl with | [_], _ => rfl,
    f_whole_names := f2, d_whole_names := (PySem.W.fnOf "whole_names" "whole_names" (defArgs s_whole_names) (defBody s_whole_names) (defScope s_whole_names) .none kV2 dc2 pm2 an2 cd2 ct2), F_whole_names := F2, g_whole_names := PySem.W.mg_of X G a2, b_whole_names := F2.binds (ps := ["rules", "known"]) fun _ _ _ _ _ _ us hl => match us, hl with | [_, _], _ => rfl,
    f_fruitful := f3, d_fruitful := (PySem.W.fnOf "fruitful" "fruitful" (defArgs s_fruitful) (defBody s_fruitful) (defScope s_fruitful) .none kV3 dc3 pm3 an3 cd3 ct3), F_fruitful := F3, g_fruitful := PySem.W.mg_of X G a3, b_fruitful := F3.binds (ps := ["rules"]) fun _ _ _ _ _ _ us hl => match us, hl with | [_], _ => rfl,
    f_good_rows := f4, d_good_rows := (PySem.W.fnOf "good_rows" "good_rows" (defArgs s_good_rows) (defBody s_good_rows) (defScope s_good_rows) .none kV4 dc4 pm4 an4 cd4 ct4), F_good_rows := F4, g_good_rows := PySem.W.mg_of X G a4, b_good_rows := F4.binds (ps := ["rules"]) fun _ _ _ _ _ _ us hl => match us, hl with | [_], _ => rfl,
    f_read_tree := f10, d_read_tree := (PySem.W.fnOf "read_tree" "read_tree" (defArgs s_read_tree) (defBody s_read_tree) (defScope s_read_tree) .none kV10 dc10 pm10 an10 cd10 ct10), F_read_tree := F10, g_read_tree := PySem.W.mg_of X G a10, b_read_tree := F10.binds (ps := ["rules", "line"]) fun _ _ _ _ _ _ us hl => match us, hl with | [_, _], _ => rfl,
    f_l_amixed := f11, d_l_amixed := (PySem.W.fnOf "_law_amixed" "_law_amixed" (defArgs s_l_amixed) (defBody s_l_amixed) (defScope s_l_amixed) .none kV11 dc11 pm11 an11 cd11 ct11), F_l_amixed := F11, g_l_amixed := PySem.W.mg_of X G a11, b_l_amixed := F11.binds (ps := ["_law_cell", "_law_at"]) fun _ _ _ _ _ _ us hl => match us, hl with | [_, _], _ => rfl,
    f_l_aopen := f12, d_l_aopen := (PySem.W.fnOf "_law_aopen" "_law_aopen" (defArgs s_l_aopen) (defBody s_l_aopen) (defScope s_l_aopen) .none kV12 dc12 pm12 an12 cd12 ct12), F_l_aopen := F12, g_l_aopen := PySem.W.mg_of X G a12, b_l_aopen := F12.binds (ps := ["_law_script"]) fun _ _ _ _ _ _ us hl => match us, hl with | [_], _ => rfl,
    f_l_adraw := f13, d_l_adraw := (PySem.W.fnOf "_law_adraw" "_law_adraw" (defArgs s_l_adraw) (defBody s_l_adraw) (defScope s_l_adraw) .none kV13 dc13 pm13 an13 cd13 ct13), F_l_adraw := F13, g_l_adraw := PySem.W.mg_of X G a13, b_l_adraw := F13.binds (ps := ["_law_feed", "_law_often"]) fun _ _ _ _ _ _ us hl => match us, hl with | [_, _], _ => rfl,
    f_l_ais_name := f14, d_l_ais_name := (PySem.W.fnOf "_law_ais_name" "_law_ais_name" (defArgs s_l_ais_name) (defBody s_l_ais_name) (defScope s_l_ais_name) .none kV14 dc14 pm14 an14 cd14 ct14), F_l_ais_name := F14, g_l_ais_name := PySem.W.mg_of X G a14, b_l_ais_name := F14.binds (ps := ["_law_word"]) fun _ _ _ _ _ _ us hl => match us, hl with | [_], _ => rfl,
    f_l_akind := f15, d_l_akind := (PySem.W.fnOf "_law_akind" "_law_akind" (defArgs s_l_akind) (defBody s_l_akind) (defScope s_l_akind) .none kV15 dc15 pm15 an15 cd15 ct15), F_l_akind := F15, g_l_akind := PySem.W.mg_of X G a15, b_l_akind := F15.binds (ps := ["_law_caught"]) fun _ _ _ _ _ _ us hl => match us, hl with | [_], _ => rfl,
    f_l_aword := f16, d_l_aword := (PySem.W.fnOf "_law_aword" "_law_aword" (defArgs s_l_aword) (defBody s_l_aword) (defScope s_l_aword) .none kV16 dc16 pm16 an16 cd16 ct16), F_l_aword := F16, g_l_aword := PySem.W.mg_of X G a16, b_l_aword := F16.binds (ps := ["_law_feed", "_law_heads", "_law_others", "_law_often"]) fun _ _ _ _ _ _ us hl => match us, hl with | [_, _, _, _], _ => rfl,
    f_l_aall_signs := f17, d_l_aall_signs := (PySem.W.fnOf "_law_aall_signs" "_law_aall_signs" (defArgs s_l_aall_signs) (defBody s_l_aall_signs) (defScope s_l_aall_signs) .none kV17 dc17 pm17 an17 cd17 ct17), F_l_aall_signs := F17, g_l_aall_signs := PySem.W.mg_of X G a17, b_l_aall_signs := F17.binds (ps := ["_law_feed", "_law_often"]) fun _ _ _ _ _ _ us hl => match us, hl with | [_, _], _ => rfl,
    f_l_awide_rules := f18, d_l_awide_rules := (PySem.W.fnOf "_law_awide_rules" "_law_awide_rules" (defArgs s_l_awide_rules) (defBody s_l_awide_rules) (defScope s_l_awide_rules) .none kV18 dc18 pm18 an18 cd18 ct18), F_l_awide_rules := F18, g_l_awide_rules := PySem.W.mg_of X G a18, b_l_awide_rules := F18.binds (ps := ["_law_feed"]) fun _ _ _ _ _ _ us hl => match us, hl with | [_], _ => rfl,
    f_l_atree_words := f19, d_l_atree_words := (PySem.W.fnOf "_law_atree_words" "_law_atree_words" (defArgs s_l_atree_words) (defBody s_l_atree_words) (defScope s_l_atree_words) .none kV19 dc19 pm19 an19 cd19 ct19), F_l_atree_words := F19, g_l_atree_words := PySem.W.mg_of X G a19, b_l_atree_words := F19.binds (ps := ["_law_tree"]) fun _ _ _ _ _ _ us hl => match us, hl with | [_], _ => rfl,
    f_l_aheights := f20, d_l_aheights := (PySem.W.fnOf "_law_aheights" "_law_aheights" (defArgs s_l_aheights) (defBody s_l_aheights) (defScope s_l_aheights) .none kV20 dc20 pm20 an20 cd20 ct20), F_l_aheights := F20, g_l_aheights := PySem.W.mg_of X G a20, b_l_aheights := F20.binds (ps := ["_law_rules"]) fun _ _ _ _ _ _ us hl => match us, hl with | [_], _ => rfl,
    f_l_agood := f21, d_l_agood := (PySem.W.fnOf "_law_agood" "_law_agood" (defArgs s_l_agood) (defBody s_l_agood) (defScope s_l_agood) .none kV21 dc21 pm21 an21 cd21 ct21), F_l_agood := F21, g_l_agood := PySem.W.mg_of X G a21, b_l_agood := F21.binds (ps := ["_law_rules", "_law_heights", "_law_head"]) fun _ _ _ _ _ _ us hl => match us, hl with | [_, _, _], _ => rfl,
    f_l_ahigh := f22, d_l_ahigh := (PySem.W.fnOf "_law_ahigh" "_law_ahigh" (defArgs s_l_ahigh) (defBody s_l_ahigh) (defScope s_l_ahigh) .none kV22 dc22 pm22 an22 cd22 ct22), F_l_ahigh := F22, g_l_ahigh := PySem.W.mg_of X G a22, b_l_ahigh := F22.binds (ps := ["_law_rules", "_law_heights", "_law_number"]) fun _ _ _ _ _ _ us hl => match us, hl with | [_, _, _], _ => rfl,
    f_l_atree := f23, d_l_atree := (PySem.W.fnOf "_law_atree" "_law_atree" (defArgs s_l_atree) (defBody s_l_atree) (defScope s_l_atree) .none kV23 dc23 pm23 an23 cd23 ct23), F_l_atree := F23, g_l_atree := PySem.W.mg_of X G a23, b_l_atree := F23.binds (ps := ["_law_feed", "_law_rules", "_law_heights", "_law_head", "_law_left"]) fun _ _ _ _ _ _ us hl => match us, hl with | [_, _, _, _, _], _ => rfl,
    f_l_asame := f24, d_l_asame := (PySem.W.fnOf "_law_asame" "_law_asame" (defArgs s_l_asame) (defBody s_l_asame) (defScope s_l_asame) .none kV24 dc24 pm24 an24 cd24 ct24), F_l_asame := F24, g_l_asame := PySem.W.mg_of X G a24, b_l_asame := F24.binds (ps := ["_law_found", "_law_due"]) fun _ _ _ _ _ _ us hl => match us, hl with | [_, _], _ => rfl,
    f_l_anumbered := f25, d_l_anumbered := (PySem.W.fnOf "_law_anumbered" "_law_anumbered" (defArgs s_l_anumbered) (defBody s_l_anumbered) (defScope s_l_anumbered) .none kV25 dc25 pm25 an25 cd25 ct25), F_l_anumbered := F25, g_l_anumbered := PySem.W.mg_of X G a25, b_l_anumbered := F25.binds (ps := ["_law_act", "_law_some"]) fun _ _ _ _ _ _ us hl => match us, hl with | [_, _], _ => rfl,
    f_l_ais_any_name := f26, d_l_ais_any_name := (PySem.W.fnOf "_law_ais_any_name" "_law_ais_any_name" (defArgs s_l_ais_any_name) (defBody s_l_ais_any_name) (defScope s_l_ais_any_name) .none kV26 dc26 pm26 an26 cd26 ct26), F_l_ais_any_name := F26, g_l_ais_any_name := PySem.W.mg_of X G a26, b_l_ais_any_name := F26.binds (ps := ["_law_word"]) fun _ _ _ _ _ _ us hl => match us, hl with | [_], _ => rfl,
    f_l_aodd := f27, d_l_aodd := (PySem.W.fnOf "_law_aodd" "_law_aodd" (defArgs s_l_aodd) (defBody s_l_aodd) (defScope s_l_aodd) .none kV27 dc27 pm27 an27 cd27 ct27), F_l_aodd := F27, g_l_aodd := PySem.W.mg_of X G a27, b_l_aodd := F27.binds (ps := ["_law_feed", "_law_words"]) fun _ _ _ _ _ _ us hl => match us, hl with | [_, _], _ => rfl,
    f_l_asmeared := f28, d_l_asmeared := (PySem.W.fnOf "_law_asmeared" "_law_asmeared" (defArgs s_l_asmeared) (defBody s_l_asmeared) (defScope s_l_asmeared) .none kV28 dc28 pm28 an28 cd28 ct28), F_l_asmeared := F28, g_l_asmeared := PySem.W.mg_of X G a28, b_l_asmeared := F28.binds (ps := ["_law_feed", "_law_word"]) fun _ _ _ _ _ _ us hl => match us, hl with | [_, _], _ => rfl,
    f_l_abent := f29, d_l_abent := (PySem.W.fnOf "_law_abent" "_law_abent" (defArgs s_l_abent) (defBody s_l_abent) (defScope s_l_abent) .none kV29 dc29 pm29 an29 cd29 ct29), F_l_abent := F29, g_l_abent := PySem.W.mg_of X G a29, b_l_abent := F29.binds (ps := ["_law_feed", "_law_words"]) fun _ _ _ _ _ _ us hl => match us, hl with | [_, _], _ => rfl,
    f_l_adue := f30, d_l_adue := (PySem.W.fnOf "_law_adue" "_law_adue" (defArgs s_l_adue) (defBody s_l_adue) (defScope s_l_adue) .none kV30 dc30 pm30 an30 cd30 ct30), F_l_adue := F30, g_l_adue := PySem.W.mg_of X G a30, b_l_adue := F30.binds (ps := ["_law_rules", "_law_heights", "_law_words"]) fun _ _ _ _ _ _ us hl => match us, hl with | [_, _, _], _ => rfl,
    f_l_aright := f31, d_l_aright := (PySem.W.fnOf "_law_aright" "_law_aright" (defArgs s_l_aright) (defBody s_l_aright) (defScope s_l_aright) .none kV31 dc31 pm31 an31 cd31 ct31), F_l_aright := F31, g_l_aright := PySem.W.mg_of X G a31, b_l_aright := F31.binds (ps := ["_law_rules", "_law_heights", "_law_line"]) fun _ _ _ _ _ _ us hl => match us, hl with | [_, _, _], _ => rfl,
    f_law := fa, d_law := (PySem.W.fnOf "law" "law" (defArgs s_law) (defBody s_law) (defScope s_law) .none kV32 dc32 pm32 an32 cd32 ct32), F_law := F32, g_law := PySem.W.mg_of X G a32, b_law := F32.binds (ps := ["_law_script"]) fun _ _ _ _ _ _ us hl => match us, hl with | [_], _ => rfl,
    C_Climb := xC0, c_Climb := PySem.W.mg_of X G xa0, a_Climb := xa0,
    C_Endless := xC1, c_Endless := PySem.W.mg_of X G xa1, a_Endless := xa1,
    C_NoBack := xC2, c_NoBack := PySem.W.mg_of X G xa2, a_NoBack := xa2,
    C_NoBatch := xC3, c_NoBatch := PySem.W.mg_of X G xa3, a_NoBatch := xa3,
    C_NoCut := xC4, c_NoCut := PySem.W.mg_of X G xa4, a_NoCut := xa4,
    C_NoForbid := xC5, c_NoForbid := PySem.W.mg_of X G xa5, a_NoForbid := xa5,
    C_NoMark := xC6, c_NoMark := PySem.W.mg_of X G xa6, a_NoMark := xa6,
    C_NoPiece := xC7, c_NoPiece := PySem.W.mg_of X G xa7, a_NoPiece := xa7,
    C_NoPlace := xC8, c_NoPlace := PySem.W.mg_of X G xa8, a_NoPlace := xa8,
    C_NoRow := xC9, c_NoRow := PySem.W.mg_of X G xa9, a_NoRow := xa9,
    C_NoSign := xC10, c_NoSign := PySem.W.mg_of X G xa10, a_NoSign := xa10,
    C_NoStretch := xC11, c_NoStretch := PySem.W.mg_of X G xa11, a_NoStretch := xa11,
    C_NoText := xC12, c_NoText := PySem.W.mg_of X G xa12, a_NoText := xa12,
    C_ReadError := xC13, c_ReadError := PySem.W.mg_of X G xa13, a_ReadError := xa13,
    C_TooLong := xC14, c_TooLong := PySem.W.mg_of X G xa14, a_TooLong := xa14,
    cls := xcls,
    ins := xins,
    f_NoText_i := f33, d_NoText_i := (PySem.W.fnOf "__init__" "NoText.__init__" (defArgs s_NoText_i) (defBody s_NoText_i) (defScope s_NoText_i) .none kV33 dc33 pm33 an33 cd33 ct33), F_NoText_i := F33, b_NoText_i := F33.binds (ps := ["self", "at"]) fun _ _ _ _ _ _ us hl => match us, hl with | [_, _], _ => rfl,
    o_NoText := ⟨⟨_, _, _, _, _, _, _, _, _, _, _, _, _, _, _, xL12, xv12⟩, xs12, xe12, xy12, xp12⟩, i_NoText := xi12, t_NoText := xt12, no_NoText := xn12, r1_NoText := xr12, r2_NoText := xu12, r3_NoText := xw12,
    v_fruitful := a3,
    y_fruitful := y3,
    v_read_tree := a10,
    t_FIGURES := tk0, c_FIGURES := PySem.W.mg_of X G x0,
    t_GREAT := tk1, c_GREAT := PySem.W.mg_of X G x1,
    t_MOST_LETTERS := tk2, c_MOST_LETTERS := PySem.W.mg_of X G x2,
    t_SMALL := tk3, c_SMALL := PySem.W.mg_of X G x3,
    n_ValueError := PySem.W.mg_none_of X G z0,
    n_all := PySem.W.mg_none_of X G z1,
    n_bool := PySem.W.mg_none_of X G z2,
    n_enumerate := PySem.W.mg_none_of X G z3,
    n_int := PySem.W.mg_none_of X G z4,
    n_isinstance := PySem.W.mg_none_of X G z5,
    n_len := PySem.W.mg_none_of X G z6,
    n_list := PySem.W.mg_none_of X G z7,
    n_max := PySem.W.mg_none_of X G z8,
    n_min := PySem.W.mg_none_of X G z9,
    n_range := PySem.W.mg_none_of X G z10,
    n_sorted := PySem.W.mg_none_of X G z11,
    n_str := PySem.W.mg_none_of X G z12,
    n_tuple := PySem.W.mg_none_of X G z13,
    n_zip := PySem.W.mg_none_of X G z14 }
  exact ⟨(PySem.W.fnOf "law" "law" (defArgs s_law) (defBody s_law) (defScope s_law) .none kV32 dc32 pm32 an32 cd32 ct32), fun s v => .of_eq rfl, fun base _ _ HB => ok_law T HB⟩
end L73
open PySem PyProof.Rows L2 G3
set_option maxHeartbeats 0 in
theorem PySem.Challenge.cw_allreads_k73_trees_refused_holds : PySem.Challenge.rw_allreads_k73_trees_refused.Holds := by
  w_on; o_law; k_head; (case hw => w_witness2)
  k_fill
  refine G3.walk_g (l := PySem.Challenge.rw_allreads_k73_trees_refused) (n := 63) (k := 202) (x := "_law_script") (sp := L73.sp_law) rfl (by decide) rfl ⟨rfl, by decide, by decide⟩ (fun w h Y => PySem.W.km_in_of Y) ?L ?F L73.law_end
  case L => exact fun w => by kernel_rfl
  case F =>
    intro w mg fa h KX G hmg
    refine' L73.all_mk KX G hmg ?xa0 ?xa1 ?xa2 ?xa3 ?xa4 ?xa5 ?xa6 ?xa7 ?xa8 ?xa9 ?xa10 ?xa11 ?xa12 ?xa13 ?xa14 ?a1 ?l1 ?c1 ?k1 ?a2 ?l2 ?c2 ?k2 ?a3 ?l3 ?c3 ?k3 ?a4 ?l4 ?c4 ?k4 ?a5 ?i5 ?l5 ?c5 ?k5 ?a6 ?i6 ?l6 ?c6 ?k6 ?a7 ?i7 ?l7 ?c7 ?k7 ?a8 ?i8 ?l8 ?c8 ?k8 ?a9 ?i9 ?l9 ?c9 ?k9 ?a10 ?l10 ?c10 ?k10 ?a11 ?l11 ?c11 ?k11 ?a12 ?l12 ?c12 ?k12 ?a13 ?l13 ?c13 ?k13 ?a14 ?l14 ?c14 ?k14 ?a15 ?l15 ?c15 ?k15 ?a16 ?l16 ?c16 ?k16 ?a17 ?l17 ?c17 ?k17 ?a18 ?l18 ?c18 ?k18 ?a19 ?l19 ?c19 ?k19 ?a20 ?l20 ?c20 ?k20 ?a21 ?l21 ?c21 ?k21 ?a22 ?l22 ?c22 ?k22 ?a23 ?l23 ?c23 ?k23 ?a24 ?l24 ?c24 ?k24 ?a25 ?l25 ?c25 ?k25 ?a26 ?l26 ?c26 ?k26 ?a27 ?l27 ?c27 ?k27 ?a28 ?l28 ?c28 ?k28 ?a29 ?l29 ?c29 ?k29 ?a30 ?l30 ?c30 ?k30 ?a31 ?l31 ?c31 ?k31 ?a32 ?l32 ?c32 ?k32 ?x0 ?x1 ?x2 ?x3 ?z0 ?z1 ?z2 ?z3 ?z4 ?z5 ?z6 ?z7 ?z8 ?z9 ?z10 ?z11 ?z12 ?z13 ?z14 ?y3 ?xins ?xm0 ?xo0 ?xcls ?xi12 ?xt12 ?xl12 ?xc12 ?xf12 ?xL12 ?xv12 ?xs12 ?xe12 ?xy12 ?xp12 ?xn12 ?xr12 ?xu12 ?xw12
    (case xa0 => k_is)
    (case xa1 => k_is)
    (case xa2 => k_is)
    (case xa3 => k_is)
    (case xa4 => k_is)
    (case xa5 => k_is)
    (case xa6 => k_is)
    (case xa7 => k_is)
    (case xa8 => k_is)
    (case xa9 => k_is)
    (case xa10 => k_is)
    (case xa11 => k_is)
    (case xa12 => k_is)
    (case xa13 => k_is)
    (case xa14 => k_is)
    (case a1 => k_is)
    (case l1 => k_is)
    (case c1 => k_is)
    (case k1 => k_is)
    (case a2 => k_is)
    (case l2 => k_is)
    (case c2 => k_is)
    (case k2 => k_is)
    (case a3 => k_is)
    (case l3 => k_is)
    (case c3 => k_is)
    (case k3 => k_is)
    (case a4 => k_is)
    (case l4 => k_is)
    (case c4 => k_is)
    (case k4 => k_is)
    (case a5 => k_is)
    (case i5 => k_is)
    (case l5 => k_is)
    (case c5 => k_is)
    (case k5 => k_is)
    (case a6 => k_is)
    (case i6 => k_is)
    (case l6 => k_is)
    (case c6 => k_is)
    (case k6 => k_is)
    (case a7 => k_is)
    (case i7 => k_is)
    (case l7 => k_is)
    (case c7 => k_is)
    (case k7 => k_is)
    (case a8 => k_is)
    (case i8 => k_is)
    (case l8 => k_is)
    (case c8 => k_is)
    (case k8 => k_is)
    (case a9 => k_is)
    (case i9 => k_is)
    (case l9 => k_is)
    (case c9 => k_is)
    (case k9 => k_is)
    (case a10 => k_is)
    (case l10 => k_is)
    (case c10 => k_is)
    (case k10 => k_is)
    (case a11 => k_is)
    (case l11 => k_is)
    (case c11 => k_is)
    (case k11 => k_is)
    (case a12 => k_is)
    (case l12 => k_is)
    (case c12 => k_is)
    (case k12 => k_is)
    (case a13 => k_is)
    (case l13 => k_is)
    (case c13 => k_is)
    (case k13 => k_is)
    (case a14 => k_is)
    (case l14 => k_is)
    (case c14 => k_is)
    (case k14 => k_is)
    (case a15 => k_is)
    (case l15 => k_is)
    (case c15 => k_is)
    (case k15 => k_is)
    (case a16 => k_is)
    (case l16 => k_is)
    (case c16 => k_is)
    (case k16 => k_is)
    (case a17 => k_is)
    (case l17 => k_is)
    (case c17 => k_is)
    (case k17 => k_is)
    (case a18 => k_is)
    (case l18 => k_is)
    (case c18 => k_is)
    (case k18 => k_is)
    (case a19 => k_is)
    (case l19 => k_is)
    (case c19 => k_is)
    (case k19 => k_is)
    (case a20 => k_is)
    (case l20 => k_is)
    (case c20 => k_is)
    (case k20 => k_is)
    (case a21 => k_is)
    (case l21 => k_is)
    (case c21 => k_is)
    (case k21 => k_is)
    (case a22 => k_is)
    (case l22 => k_is)
    (case c22 => k_is)
    (case k22 => k_is)
    (case a23 => k_is)
    (case l23 => k_is)
    (case c23 => k_is)
    (case k23 => k_is)
    (case a24 => k_is)
    (case l24 => k_is)
    (case c24 => k_is)
    (case k24 => k_is)
    (case a25 => k_is)
    (case l25 => k_is)
    (case c25 => k_is)
    (case k25 => k_is)
    (case a26 => k_is)
    (case l26 => k_is)
    (case c26 => k_is)
    (case k26 => k_is)
    (case a27 => k_is)
    (case l27 => k_is)
    (case c27 => k_is)
    (case k27 => k_is)
    (case a28 => k_is)
    (case l28 => k_is)
    (case c28 => k_is)
    (case k28 => k_is)
    (case a29 => k_is)
    (case l29 => k_is)
    (case c29 => k_is)
    (case k29 => k_is)
    (case a30 => k_is)
    (case l30 => k_is)
    (case c30 => k_is)
    (case k30 => k_is)
    (case a31 => k_is)
    (case l31 => k_is)
    (case c31 => k_is)
    (case k31 => k_is)
    (case a32 => k_is)
    (case l32 => k_is)
    (case c32 => k_is)
    (case k32 => k_is)
    (case x0 => k_is)
    (case x1 => k_is)
    (case x2 => k_is)
    (case x3 => k_is)
    (case z0 => k_is)
    (case z1 => k_is)
    (case z2 => k_is)
    (case z3 => k_is)
    (case z4 => k_is)
    (case z5 => k_is)
    (case z6 => k_is)
    (case z7 => k_is)
    (case z8 => k_is)
    (case z9 => k_is)
    (case z10 => k_is)
    (case z11 => k_is)
    (case z12 => k_is)
    (case z13 => k_is)
    (case z14 => k_is)
    (case y3 => kernel_rfl)
    (case xins => kernel_rfl)
    (case xm0 => k_is)
    (case xo0 => k_is)
    (case xcls => kernel_rfl)
    (case xi12 => k_is)
    (case xt12 => k_is)
    (case xl12 => k_is)
    (case xc12 => k_is)
    (case xf12 => k_is)
    (case xL12 => k_is)
    (case xv12 => kernel_rfl)
    (case xs12 => k_is)
    (case xe12 => k_is)
    (case xy12 => k_is)
    (case xp12 => k_is)
    (case xn12 => k_is)
    (case xr12 => k_is)
    (case xu12 => k_is)
    (case xw12 => k_is)
