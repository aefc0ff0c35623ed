import PyProof.Rows.All
import Wide.All
import OpenK.AllK
import Wide.FinOn
import HandS.ForMost
import HandS.ForExc
import HandS.Conv
import HandS.IsInst
import KE.DataEq
import HandS.TupAny
import HandS.RevTup
import HandS.Style
import HandS.Wide
import HandS.TupMul
import HandS.SetFor
import KE.DatumIndex
import HandS.NoneIn
import KE.GoesEnum
import HandS.Walk
import PySem.Challenge.RW_allreads_k44_forbids_known
set_option Elab.async false
set_option linter.all false
set_option maxRecDepth 100000
set_option maxHeartbeats 4000000
set_option autoImplicit false
namespace G3
open PySem L2

/-! ### values as trees, the heap of what may change -/
inductive Dv where
  | non | bl (b : Bool) | int (i : Int) | str (x : Str) | tup (ds : List Dv) | lst (ds : List Dv) | ref (a : Addr) | obj (a : Addr) | ty (n : String)
inductive Mo where
  | lst (ds : List Dv)
  | ins (C : Addr) (fs : List (Str × Dv))
abbrev Mh := Addr → Option Mo
def mput (h : Mh) (a : Addr) (o : Mo) : Mh := fun b => if b = a then some o else h b
def mdel (h : Mh) (a : Addr) : Mh := fun b => if b = a then none else h b
theorem mput_same {h : Mh} {a : Addr} {o : Mo} : mput h a o a = some o := by unfold mput; rw [if_pos rfl]
theorem mput_ne {h : Mh} {a b : Addr} {o : Mo} (n : b ≠ a) : mput h a o b = h b := by unfold mput; rw [if_neg n]
theorem mdel_same {h : Mh} {a : Addr} : mdel h a a = none := by unfold mdel; rw [if_pos rfl]
theorem mdel_ne {h : Mh} {a b : Addr} (n : b ≠ a) : mdel h a b = h b := by unfold mdel; rw [if_neg n]
theorem mput_mput {h : Mh} {a : Addr} {o u : Mo} : mput (mput h a o) a u = mput h a u := by
  funext b; unfold mput; split <;> rfl

/-- the state told: what may change, what is known, all that is tracked -/
structure Wd where
  h : Mh
  G : Hp
  H : Hp

def TupAt (K : PySem.W.Frag) (w : Wd) (p : Addr) (xs : List V) : Prop := (w.h p = none ∧ w.G p = some (.tup xs)) ∨ SqT K (fun _ => none) p xs
def LstAt (K : PySem.W.Frag) (w : Wd) (p : Addr) (xs : List V) : Prop := (w.h p = none ∧ w.G p = some (.lst xs)) ∨ SqL K (fun _ => none) p xs
mutual
inductive Rp (K : PySem.W.Frag) (w : Wd) : Dv → V → Prop
  | non : Rp K w .non .non
  | bl (b : Bool) : Rp K w (.bl b) (.bl b)
  | int (i : Int) : Rp K w (.int i) (.int i)
  | str (x : Str) : Rp K w (.str x) (.str x)
  | ty (n : String) : Rp K w (.ty n) (.ty n)
  | ref (a : Addr) : Rp K w (.ref a) (.ref a)
  | obj (a : Addr) : Rp K w (.obj a) (.ref a)
  | tup {p : Addr} {xs : List V} {ds : List Dv} : TupAt K w p xs → RpAll K w ds xs → Rp K w (.tup ds) (.ref p)
  | lst {p : Addr} {xs : List V} {ds : List Dv} : LstAt K w p xs → RpAll K w ds xs → Rp K w (.lst ds) (.ref p)
inductive RpAll (K : PySem.W.Frag) (w : Wd) : List Dv → List V → Prop
  | nil : RpAll K w [] []
  | cons {d : Dv} {v : V} {ds : List Dv} {vs : List V} : Rp K w d v → RpAll K w ds vs → RpAll K w (d :: ds) (v :: vs)
end
def RpF (K : PySem.W.Frag) (w : Wd) : List (Str × Dv) → List (Str × V) → Prop := Paired fun p q => p.1 = q.1 ∧ Rp K w p.2 q.2
def RpO (K : PySem.W.Frag) (w : Wd) (a : Addr) : Mo → Prop
  | .lst ds => ∃ xs, w.G a = some (.lst xs) ∧ RpAll K w ds xs
  | .ins C fs => ∃ dx vs, w.G a = some (.ins C dx vs) ∧ RpF K w fs vs
structure Rel (K : PySem.W.Frag) (w : Wd) : Prop where
  sub : ∀ p u, w.G p = some u → w.H p = some u ∨ (w.h p = none ∧ ∃ o, w.H p = some (.frz o u))
  obj : ∀ a m, w.h a = some m → RpO K w a m
structure Ext (w v : Wd) : Prop where
  fz : ∀ p u, w.h p = none → w.G p = some u → v.G p = some u ∧ v.h p = none
  junk : ∀ p u, w.G p = none → w.H p = some u → v.G p = none ∧ v.H p = some u
theorem Ext.refl (w : Wd) : Ext w w := ⟨fun _ _ a b => ⟨b, a⟩, fun _ _ a b => ⟨a, b⟩⟩
theorem Ext.trans {w v u : Wd} (a : Ext w v) (b : Ext v u) : Ext w u :=
  ⟨fun p x h g => let ⟨g1, h1⟩ := a.fz p x h g; b.fz p x h1 g1, fun p x g h => let ⟨g1, h1⟩ := a.junk p x g h; b.junk p x g1 h1⟩
section
variable {K : PySem.W.Frag} {w v : Wd}
/-- what is known and changes no more stays -/
def Fzs (w v : Wd) : Prop := ∀ p u, w.h p = none → w.G p = some u → v.G p = some u ∧ v.h p = none
theorem TupAt.ext {p : Addr} {xs : List V} (t : TupAt K w p xs) (e : Fzs w v) : TupAt K v p xs := t.elim (fun ⟨a, b⟩ => .inl (let ⟨c, d⟩ := e p _ a b; ⟨d, c⟩)) .inr
theorem LstAt.ext {p : Addr} {xs : List V} (t : LstAt K w p xs) (e : Fzs w v) : LstAt K v p xs := t.elim (fun ⟨a, b⟩ => .inl (let ⟨c, d⟩ := e p _ a b; ⟨d, c⟩)) .inr
mutual
theorem Rp.fz (e : Fzs w v) : ∀ {d : Dv} {x : V}, Rp K w d x → Rp K v d x
  | _, _, .non => .non
  | _, _, .bl b => .bl b
  | _, _, .int i => .int i
  | _, _, .str x => .str x
  | _, _, .ty n => .ty n
  | _, _, .ref a => .ref a
  | _, _, .obj a => .obj a
  | _, _, .tup t r => .tup (t.ext e) (RpAll.fz e r)
  | _, _, .lst t r => .lst (t.ext e) (RpAll.fz e r)
theorem RpAll.fz (e : Fzs w v) : ∀ {ds : List Dv} {xs : List V}, RpAll K w ds xs → RpAll K v ds xs
  | _, _, .nil => .nil
  | _, _, .cons a b => .cons (Rp.fz e a) (RpAll.fz e b)
end
theorem Rp.ext {d : Dv} {x : V} (r : Rp K w d x) (e : Ext w v) : Rp K v d x := Rp.fz e.fz r
theorem RpAll.ext {ds : List Dv} {xs : List V} (r : RpAll K w ds xs) (e : Ext w v) : RpAll K v ds xs := RpAll.fz e.fz r
theorem RpF.ext (e : Ext w v) {fs : List (Str × Dv)} {vs : List (Str × V)} (r : RpF K w fs vs) : RpF K v fs vs := Paired.mapP r fun _ _ z => ⟨z.1, z.2.ext e⟩
theorem RpAll.length : ∀ {ds : List Dv} {xs : List V}, RpAll K w ds xs → ds.length = xs.length
  | _, _, .nil => rfl
  | _, _, .cons _ b => congrArg (· + 1) (RpAll.length b)
theorem RpAll.get : ∀ {ds : List Dv} {xs : List V} {i : Nat} {x : V}, RpAll K w ds xs → xs[i]? = some x → ∃ d, ds[i]? = some d ∧ Rp K w d x
  | _, _, _, _, .nil, h => by simp at h
  | _, _, 0, _, .cons a _, h => by
    have q := Option.some.inj h
    subst q
    exact ⟨_, rfl, a⟩
  | _, _, i + 1, _, .cons _ b, h => RpAll.get (i := i) b h
theorem RpAll.get' : ∀ {ds : List Dv} {xs : List V} {i : Nat} {d : Dv}, RpAll K w ds xs → ds[i]? = some d → ∃ x, xs[i]? = some x ∧ Rp K w d x
  | _, _, _, _, .nil, h => by simp at h
  | _, _, 0, _, .cons a _, h => by
    have q := Option.some.inj h
    subst q
    exact ⟨_, rfl, a⟩
  | _, _, i + 1, _, .cons _ b, h => RpAll.get' (i := i) b h
theorem RpAll.append : ∀ {ds es : List Dv} {xs ys : List V}, RpAll K w ds xs → RpAll K w es ys → RpAll K w (ds ++ es) (xs ++ ys)
  | _, _, _, _, .nil, r => r
  | _, _, _, _, .cons a b, r => .cons a (RpAll.append b r)
theorem RpAll.take : ∀ {ds : List Dv} {xs : List V} (n : Nat), RpAll K w ds xs → RpAll K w (ds.take n) (xs.take n)
  | _, _, 0, _ => .nil
  | _, _, _ + 1, .nil => .nil
  | _, _, n + 1, .cons a b => .cons a (RpAll.take n b)
theorem RpAll.drop : ∀ {ds : List Dv} {xs : List V} (n : Nat), RpAll K w ds xs → RpAll K w (ds.drop n) (xs.drop n)
  | _, _, 0, r => r
  | _, _, _ + 1, .nil => .nil
  | _, _, n + 1, .cons _ b => RpAll.drop n b
theorem RpAll.set {d : Dv} {x : V} (r : Rp K w d x) : ∀ {ds : List Dv} {xs : List V} (i : Nat), RpAll K w ds xs → RpAll K w (ds.set i d) (xs.set i x)
  | _, _, _, .nil => .nil
  | _, _, 0, .cons _ b => .cons r b
  | _, _, i + 1, .cons a b => .cons a (RpAll.set r i b)
theorem Rel.hnone (r : Rel K w) {p : Addr} (e : w.H p = none) : w.G p = none ∧ w.h p = none := by
  have g : w.G p = none := by
    cases q : w.G p with
    | none => rfl
    | some u =>
      rcases r.sub p u q with z | ⟨_, o, z⟩ <;> (rw [e] at z; cases z)
  refine ⟨g, ?_⟩
  cases q : w.h p with
  | none => rfl
  | some m =>
    have z := r.obj p m q
    cases m with
    | lst ds => obtain ⟨_, z, _⟩ := z; rw [g] at z; cases z
    | ins C fs => obtain ⟨_, _, z, _⟩ := z; rw [g] at z; cases z
theorem Rel.sqT (r : Rel K w) {p : Addr} {xs : List V} (t : TupAt K w p xs) : SqT K w.H p xs := by
  rcases t with ⟨a, b⟩ | (z | z)
  · rcases r.sub p _ b with q | ⟨_, o, q⟩
    · exact .inl (.inl q)
    · exact .inl (.inr ⟨o, q⟩)
  · rcases z with z | ⟨_, z⟩ <;> cases z
  · exact .inr z
theorem Rel.sqL (r : Rel K w) {p : Addr} {xs : List V} (t : LstAt K w p xs) : SqL K w.H p xs := by
  rcases t with ⟨a, b⟩ | (z | z)
  · rcases r.sub p _ b with q | ⟨_, o, q⟩
    · exact .inl (.inl q)
    · exact .inl (.inr ⟨o, q⟩)
  · rcases z with z | ⟨_, z⟩ <;> cases z
  · exact .inr z
/-- what may change, as it is tracked -/
theorem Rel.mlst (r : Rel K w) {a : Addr} {ds : List Dv} (e : w.h a = some (.lst ds)) : ∃ xs, w.G a = some (.lst xs) ∧ w.H a = some (.lst xs) ∧ RpAll K w ds xs := by
  obtain ⟨xs, g, q⟩ := r.obj a _ e
  rcases r.sub a _ g with z | ⟨z, _⟩
  · exact ⟨xs, g, z, q⟩
  · rw [e] at z; cases z
theorem Rel.mins (r : Rel K w) {a C : Addr} {fs : List (Str × Dv)} (e : w.h a = some (.ins C fs)) : ∃ dx vs, w.G a = some (.ins C dx vs) ∧ w.H a = some (.ins C dx vs) ∧ RpF K w fs vs := by
  obtain ⟨dx, vs, g, q⟩ := r.obj a _ e
  rcases r.sub a _ g with z | ⟨z, _⟩
  · exact ⟨dx, vs, g, z, q⟩
  · rw [e] at z; cases z
/-- a new thing that never changes -/
theorem Rel.newF (r : Rel K w) {p : Addr} (e : w.H p = none) (u : HO) : Rel K ⟨w.h, upd w.G p u, upd w.H p u⟩ ∧ Ext w ⟨w.h, upd w.G p u, upd w.H p u⟩ := by
  obtain ⟨g, m⟩ := r.hnone e
  have ex : Ext w ⟨w.h, upd w.G p u, upd w.H p u⟩ := by
    refine ⟨fun q x h1 h2 => ?_, fun q x h1 h2 => ?_⟩
    · have n : q ≠ p := fun z => by rw [z, g] at h2; cases h2
      exact ⟨by show upd w.G p u q = _; rw [upd_ne n]; exact h2, h1⟩
    · have n : q ≠ p := fun z => by rw [z, e] at h2; cases h2
      exact ⟨by show upd w.G p u q = _; rw [upd_ne n]; exact h1, by show upd w.H p u q = _; rw [upd_ne n]; exact h2⟩
  refine ⟨⟨fun q x h => ?_, fun a o h => ?_⟩, ex⟩
  · have h : upd w.G p u q = some x := h
    by_cases n : q = p
    · subst n
      rw [upd_same] at h
      exact .inl (by show upd w.H q u q = _; rw [upd_same]; exact h)
    · rw [upd_ne n] at h
      rcases r.sub q x h with z | ⟨z1, o, z⟩
      · exact .inl (by show upd w.H p u q = _; rw [upd_ne n]; exact z)
      · exact .inr ⟨z1, o, by show upd w.H p u q = _; rw [upd_ne n]; exact z⟩
  · have n : a ≠ p := fun z => by
      have h : w.h a = some o := h
      rw [z, m] at h; cases h
    have q := r.obj a o h
    cases o with
    | lst ds =>
      obtain ⟨xs, q1, q2⟩ := q
      exact ⟨xs, by show upd w.G p u a = _; rw [upd_ne n]; exact q1, q2.ext ex⟩
    | ins C fs =>
      obtain ⟨dx, vs, q1, q2⟩ := q
      exact ⟨dx, vs, by show upd w.G p u a = _; rw [upd_ne n]; exact q1, q2.ext ex⟩
/-- a thing that may change is put: it is new, or it may change already -/
theorem Rel.put (r : Rel K w) {p : Addr} (e : w.H p = none ∨ ∃ m, w.h p = some m) {u : HO} {m : Mo} (hm : ∀ v : Wd, Ext w v → v.G p = some u → RpO K v p m) :
    Rel K ⟨mput w.h p m, upd w.G p u, upd w.H p u⟩ ∧ Ext w ⟨mput w.h p m, upd w.G p u, upd w.H p u⟩ := by
  have gp : ∀ x, w.h p = none → w.G p = some x → False := fun x h g => by
    rcases e with e | ⟨m, e⟩
    · rw [(r.hnone e).1] at g; cases g
    · rw [e] at h; cases h
  have jp : ∀ x, w.G p = none → w.H p = some x → False := fun x g h => by
    rcases e with e | ⟨m, e⟩
    · rw [e] at h; cases h
    · have z := r.obj p m e
      cases m with
      | lst ds => obtain ⟨_, z, _⟩ := z; rw [g] at z; cases z
      | ins C fs => obtain ⟨_, _, z, _⟩ := z; rw [g] at z; cases z
  have ex : Ext w ⟨mput w.h p m, upd w.G p u, upd w.H p u⟩ := by
    refine ⟨fun q x h1 h2 => ?_, fun q x h1 h2 => ?_⟩
    · have n : q ≠ p := fun z => gp x (by rw [← z]; exact h1) (by rw [← z]; exact h2)
      exact ⟨by show upd w.G p u q = _; rw [upd_ne n]; exact h2, by show mput w.h p m q = _; rw [mput_ne n]; exact h1⟩
    · have n : q ≠ p := fun z => jp x (by rw [← z]; exact h1) (by rw [← z]; exact h2)
      exact ⟨by show upd w.G p u q = _; rw [upd_ne n]; exact h1, by show upd w.H p u q = _; rw [upd_ne n]; exact h2⟩
  refine ⟨⟨fun q x h => ?_, fun a o h => ?_⟩, ex⟩
  · have h : upd w.G p u q = some x := h
    by_cases n : q = p
    · subst n
      rw [upd_same] at h
      exact .inl (by show upd w.H q u q = _; rw [upd_same]; exact h)
    · rw [upd_ne n] at h
      rcases r.sub q x h with z | ⟨z1, o, z⟩
      · exact .inl (by show upd w.H p u q = _; rw [upd_ne n]; exact z)
      · exact .inr ⟨by show mput w.h p m q = _; rw [mput_ne n]; exact z1, o, by show upd w.H p u q = _; rw [upd_ne n]; exact z⟩
  · have h : mput w.h p m a = some o := h
    by_cases n : a = p
    · subst n
      rw [mput_same] at h
      cases h
      exact hm _ ex (by show upd w.G a u a = _; rw [upd_same])
    · rw [mput_ne n] at h
      have q := r.obj a o h
      cases o with
      | lst ds =>
        obtain ⟨xs, q1, q2⟩ := q
        exact ⟨xs, by show upd w.G p u a = _; rw [upd_ne n]; exact q1, q2.ext ex⟩
      | ins C fs =>
        obtain ⟨dx, vs, q1, q2⟩ := q
        exact ⟨dx, vs, by show upd w.G p u a = _; rw [upd_ne n]; exact q1, q2.ext ex⟩
/-- a thing changes no more -/
theorem Rel.del (r : Rel K w) (a : Addr) : Rel K ⟨mdel w.h a, w.G, w.H⟩ ∧ Ext w ⟨mdel w.h a, w.G, w.H⟩ := by
  have ex : Ext w ⟨mdel w.h a, w.G, w.H⟩ := by
    refine ⟨fun q x h1 h2 => ⟨h2, ?_⟩, fun q x h1 h2 => ⟨h1, h2⟩⟩
    show mdel w.h a q = none
    by_cases n : q = a
    · rw [n, mdel_same]
    · rw [mdel_ne n]; exact h1
  refine ⟨⟨fun q x h => ?_, fun b o h => ?_⟩, ex⟩
  · rcases r.sub q x h with z | ⟨z1, o, z⟩
    · exact .inl z
    · refine .inr ⟨?_, o, z⟩
      show mdel w.h a q = none
      by_cases n : q = a
      · rw [n, mdel_same]
      · rw [mdel_ne n]; exact z1
  · have h : mdel w.h a b = some o := h
    by_cases n : b = a
    · rw [n, mdel_same] at h; cases h
    · rw [mdel_ne n] at h
      have q := r.obj b o h
      cases o with
      | lst ds => obtain ⟨xs, q1, q2⟩ := q; exact ⟨xs, q1, q2.ext ex⟩
      | ins C fs => obtain ⟨dx, vs, q1, q2⟩ := q; exact ⟨dx, vs, q1, q2.ext ex⟩
end

/-! ### slots -/
abbrev Sl := List (Option Dv)
@[simp] def slot (ρ : Sl) (i : Nat) : Option Dv := match ρ, i with
  | [], _ => none
  | d :: _, 0 => d
  | _ :: r, i + 1 => slot r i
theorem slot_get : ∀ {ρ : Sl} {i : Nat} {d : Dv}, slot ρ i = some d → ρ[i]? = some (some d)
  | [], _, _, h => by cases h
  | _ :: _, 0, _, h => congrArg some h
  | _ :: r, i + 1, d, h => slot_get (ρ := r) (i := i) h
structure Good (K : PySem.W.Frag) (ρ : Sl) (w : Wd) (σ : St) : Prop where
  rel : Rel K w
  len : ρ.length = σ.length
  at_ : ∀ (i : Nat) (d : Dv), ρ[i]? = some (some d) → ∃ v, σ[i]? = some (some v) ∧ Rp K w d v
section
variable {K : PySem.W.Frag} {ρ : Sl} {w v : Wd} {σ : St}
theorem Good.ext (g : Good K ρ w σ) (r : Rel K v) (e : Ext w v) : Good K ρ v σ := ⟨r, g.len, fun i d h => let ⟨x, a, b⟩ := g.at_ i d h; ⟨x, a, b.ext e⟩⟩
theorem Good.set (g : Good K ρ w σ) {d : Dv} {x : V} (r : Rp K w d x) (i : Nat) : Good K (ρ.set i (some d)) w (σ.set i (some x)) := by
  refine ⟨g.rel, by rw [List.length_set, List.length_set]; exact g.len, fun j e h => ?_⟩
  by_cases n : i = j
  · subst n
    have hl : i < ρ.length := by
      have := (List.getElem?_eq_some_iff.mp h).1
      rwa [List.length_set] at this
    rw [List.getElem?_set_self hl] at h
    cases h
    exact ⟨x, by rw [List.getElem?_set_self (by rw [← g.len]; exact hl)], r⟩
  · rw [List.getElem?_set_ne n] at h
    obtain ⟨y, a, b⟩ := g.at_ j e h
    exact ⟨y, by rw [List.getElem?_set_ne n]; exact a, b⟩
end

/-! ### the readings over trees, and how they stand for the hand layer's -/
abbrev Kd := Dv → Mh → Prop
abbrev GE := Sl → Mh → Kd → Prop
abbrev GT := Sl → Mh → (Bool → Mh → Prop) → Prop
abbrev GA := Sl → Mh → (List Dv → Mh → Prop) → Prop
structure En where
  nx : Sl → Mh → Prop
  rt : Kd
  bk : Sl → Mh → Prop := fun _ _ => False
  ct : Sl → Mh → Prop := fun _ _ => False
abbrev GS := En → Sl → Mh → Prop
def Out (K : PySem.W.Frag) (w : Wd) (Q3 : Kd) (Q : VK) : Prop := ∀ d w' v, Q3 d w'.h → Rel K w' → Ext w w' → Rp K w' d v → Q v w'.H
theorem Out.ext {K : PySem.W.Frag} {w w1 : Wd} {Q3 : Kd} {Q : VK} (o : Out K w Q3 Q) (e : Ext w w1) : Out K w1 Q3 Q := fun d w' v a b c f => o d w' v a b (e.trans c) f
theorem Out.go {K : PySem.W.Frag} {w w' : Wd} {Q3 : Kd} {Q : VK} {d : Dv} {v : V} (o : Out K w Q3 Q) (r : Rel K w') (e : Ext w w') (p : Rp K w' d v) (q : Q3 d w'.h) : Q v w'.H := o d w' v q r e p
def OutT (K : PySem.W.Frag) (w : Wd) (Q3 : Bool → Mh → Prop) (Q : Bool → Hp → Prop) : Prop := ∀ b w', Q3 b w'.h → Rel K w' → Ext w w' → Q b w'.H
theorem OutT.ext {K : PySem.W.Frag} {w w1 : Wd} {Q3 : Bool → Mh → Prop} {Q : Bool → Hp → Prop} (o : OutT K w Q3 Q) (e : Ext w w1) : OutT K w1 Q3 Q := fun d w' a b c => o d w' a b (e.trans c)
def OutA (K : PySem.W.Frag) (w : Wd) (Q3 : List Dv → Mh → Prop) (Q : List V → Hp → Prop) : Prop := ∀ ds w' vs, Q3 ds w'.h → Rel K w' → Ext w w' → RpAll K w' ds vs → Q vs w'.H
structure OutS (K : PySem.W.Frag) (w : Wd) (E : En) (D : Ends) : Prop where
  nx : ∀ ρ w' σ, E.nx ρ w'.h → Good K ρ w' σ → Ext w w' → D.nx σ w'.H
  rt : Out K w E.rt D.rt
  bk : ∀ ρ w' σ, E.bk ρ w'.h → Good K ρ w' σ → Ext w w' → D.bk σ w'.H
  ct : ∀ ρ w' σ, E.ct ρ w'.h → Good K ρ w' σ → Ext w w' → D.ct σ w'.H
theorem OutS.ext {K : PySem.W.Frag} {w w1 : Wd} {E : En} {D : Ends} (o : OutS K w E D) (e : Ext w w1) : OutS K w1 E D :=
  ⟨fun ρ w' σ a b c => o.nx ρ w' σ a b (e.trans c), o.rt.ext e, fun ρ w' σ a b c => o.bk ρ w' σ a b (e.trans c), fun ρ w' σ a b c => o.ct ρ w' σ a b (e.trans c)⟩
def lo (K : PySem.W.Frag) (g : GE) : TE := fun σ H Q => ∃ ρ w Q3, w.H = H ∧ Good K ρ w σ ∧ g ρ w.h Q3 ∧ Out K w Q3 Q
def loT (K : PySem.W.Frag) (g : GT) : TT := fun σ H Q => ∃ ρ w Q3, w.H = H ∧ Good K ρ w σ ∧ g ρ w.h Q3 ∧ OutT K w Q3 Q
def loA (K : PySem.W.Frag) (g : GA) : TA := fun σ H Q => ∃ ρ w Q3, w.H = H ∧ Good K ρ w σ ∧ g ρ w.h Q3 ∧ OutA K w Q3 Q
def loS (K : PySem.W.Frag) (g : GS) : TS := fun D σ H => ∃ ρ w E, w.H = H ∧ Good K ρ w σ ∧ g E ρ w.h ∧ OutS K w E D
/-- by values -/
abbrev D2 := Dv → Dv → Mh → Kd → Prop
def lo2 (K : PySem.W.Frag) (r : D2) : R2 := fun x y H Q => ∃ a b w Q3, w.H = H ∧ Rel K w ∧ Rp K w a x ∧ Rp K w b y ∧ r a b w.h Q3 ∧ Out K w Q3 Q
def lo1 (K : PySem.W.Frag) (r : Dv → Mh → Kd → Prop) : V → Hp → VK → Prop := fun x H Q => ∃ a w Q3, w.H = H ∧ Rel K w ∧ Rp K w a x ∧ r a w.h Q3 ∧ Out K w Q3 Q
abbrev DC := List Dv → Mh → Kd → Prop
def loC (K : PySem.W.Frag) (r : DC) : List V → Hp → VK → Prop := fun xs H Q => ∃ ds w Q3, w.H = H ∧ Rel K w ∧ RpAll K w ds xs ∧ r ds w.h Q3 ∧ Out K w Q3 Q
abbrev DM := Dv → List Dv → Mh → Kd → Prop
def loM (K : PySem.W.Frag) (r : DM) : V → List V → Hp → VK → Prop := fun x xs H Q => ∃ d ds w Q3, w.H = H ∧ Rel K w ∧ Rp K w d x ∧ RpAll K w ds xs ∧ r d ds w.h Q3 ∧ Out K w Q3 Q

def E3 (X : Cx) (e : Expr) (g : GE) : Prop := PE X e (lo X.K g)
def T3 (X : Cx) (e : Expr) (g : GT) : Prop := PT X e (loT X.K g)
def W3 (X : Cx) (e : Expr) (g : GT) : Prop := PW X e (loT X.K g)
def A3 (X : Cx) (es : List Expr) (g : GA) : Prop := PA X es (loA X.K g)
def S3 (X : Cx) (st : Stmt) (g : GS) : Prop := PS X st (loS X.K g)
def B3 (X : Cx) (st : List Stmt) (g : GS) : Prop := PSs X st (loS X.K g)
section
variable {X : Cx}
theorem PEimp {e : Expr} {t t' : TE} (h : PE X e t) (i : ∀ σ H Q, t' σ H Q → t σ H Q) : PE X e t' := ⟨fun pins s σ H Q I q => h.run pins s σ H Q I (i _ _ _ q)⟩
theorem PTimp {e : Expr} {t t' : TT} (h : PT X e t) (i : ∀ σ H Q, t' σ H Q → t σ H Q) : PT X e t' := ⟨fun pins s σ H Q I q => h.run pins s σ H Q I (i _ _ _ q)⟩
theorem PWimp {e : Expr} {t t' : TT} (h : PW X e t) (i : ∀ σ H Q, t' σ H Q → t σ H Q) : PW X e t' := ⟨fun wh pins s σ H Q I q => h.run wh pins s σ H Q I (i _ _ _ q)⟩
theorem PAimp {e : List Expr} {t t' : TA} (h : PA X e t) (i : ∀ σ H Q, t' σ H Q → t σ H Q) : PA X e t' := ⟨fun ps pins s σ H Q I q => h.run ps pins s σ H Q I (i _ _ _ q)⟩
theorem PSimp {e : Stmt} {t t' : TS} (h : PS X e t) (i : ∀ D σ H, t' D σ H → t D σ H) : PS X e t' := ⟨fun pins s σ H D I q => h.run pins s σ H D I (i _ _ _ q)⟩
theorem PSsimp {e : List Stmt} {t t' : TS} (h : PSs X e t) (i : ∀ D σ H, t' D σ H → t D σ H) : PSs X e t' := ⟨fun pins s σ H D I q => h.run pins s σ H D I (i _ _ _ q)⟩
end

/-! ### names, constants -/
section
variable {X : Cx} {pos : Pos}
@[simp] def gVar (i : Nat) : GE := fun ρ h Q => ∃ d, slot ρ i = some d ∧ Q d h
@[simp] def gC (d : Dv) : GE := fun _ h Q => Q d h
theorem e_var (i : Nat) {x : Str} (hN : X.N[i]? = some x := by rfl) (hv : Vis X.env.scope x := by first | exact Or.inl rfl | exact Or.inr (Or.inl rfl) | exact Or.inr (Or.inr rfl)) (hd : (x == ("__debug__" : Str)) = false := by decide) (hcd : (x == ("__classdict__" : Str)) = false := by decide) :
    E3 X (.Name x pos) (gVar i) := PEimp (pe_var hN hv hd hcd) fun σ H Q ⟨ρ, w, Q3, e, gd, ⟨d, hs, q⟩, out⟩ => by
  subst e
  obtain ⟨v, h1, h2⟩ := gd.at_ i d (slot_get hs)
  exact ⟨v, h1, out d w v q gd.rel (Ext.refl w) h2⟩
theorem e_con {e : Expr} {d : Dv} {v : V} (h : PE X e (tC v)) (r : ∀ w, Rp X.K w d v) : E3 X e (gC d) := PEimp h fun σ H Q ⟨ρ, w, Q3, e, gd, q, out⟩ => by
  subst e
  exact out d w v q gd.rel (Ext.refl w) (r w)
theorem e_int {i : Int} {j} : E3 X (.Constant (.int i) j pos) (gC (.int i)) := e_con pe_int fun _ => .int i
theorem e_bl {b : Bool} {j} : E3 X (.Constant (.bool b) j pos) (gC (.bl b)) := e_con pe_bl fun _ => .bl b
theorem e_non {j} : E3 X (.Constant .none j pos) (gC .non) := e_con pe_non fun _ => .non
theorem e_str {x : Str} {j} : E3 X (.Constant (.str x) j pos) (gC (.str x)) := e_con pe_str fun _ => .str x
/-- a module's constant -/
theorem e_gStr {x : Str} {z : Str} {t : Tok} (hg : Gl X x) (hm : X.mg x = some (.str z t)) (hd : (x == ("__debug__" : Str)) = false := by decide) : E3 X (.Name x pos) (gC (.str z)) := e_con (pe_glob (v := .str z) hg hm ⟨t, rfl⟩ hd) fun _ => .str z
theorem e_gInt {x : Str} {z : Int} {t : Tok} (hg : Gl X x) (hm : X.mg x = some (.int z t)) (hd : (x == ("__debug__" : Str)) = false := by decide) : E3 X (.Name x pos) (gC (.int z)) := e_con (pe_glob (v := .int z) hg hm ⟨t, rfl⟩ hd) fun _ => .int z
theorem e_gObj {x : Str} {a : Addr} (hg : Gl X x) (hm : X.mg x = some (.ref a)) (hd : (x == ("__debug__" : Str)) = false := by decide) : E3 X (.Name x pos) (gC (.obj a)) := e_con (pe_glob (v := .ref a) hg hm rfl hd) fun _ => .obj a
theorem e_gTy {x : Str} {n : String} (hg : Gl X x) (hm : X.mg x = none) (hv : bootBuiltins x = some (.type n)) (hn : x ≠ "__name__" := by decide) (hd : (x == ("__debug__" : Str)) = false := by decide) : E3 X (.Name x pos) (gC (.ty n)) := e_con (pe_bltn (v := .ty n) hg hm hv rfl hn hd) fun _ => .ty n

/-! ### operators, comparisons, tests -/
variable {a b c : Expr} {ga gb gc : GE}
@[simp] def gOp (r : D2) (ga gb : GE) : GE := fun ρ h Q => ga ρ h fun x h1 => gb ρ h1 fun y h2 => r x y h2 Q
@[simp] def gUn (r : Dv → Mh → Kd → Prop) (ga : GE) : GE := fun ρ h Q => ga ρ h fun x h1 => r x h1 Q
theorem lo_op {K : PySem.W.Frag} {r : D2} {σ : St} {H : Hp} {Q : VK} (h : lo K (gOp r ga gb) σ H Q) : tOp (lo2 K r) (lo K ga) (lo K gb) σ H Q := by
  obtain ⟨ρ, w, Q3, e, gd, q, out⟩ := h
  subst e
  exact ⟨ρ, w, _, rfl, gd, q, fun d1 w1 v1 q1 r1 e1 p1 => ⟨ρ, w1, _, rfl, gd.ext r1 e1, q1, fun d2 w2 v2 q2 r2 e2 p2 => ⟨d1, d2, w2, Q3, rfl, r2, p1.ext e2, p2, q2, out.ext (e1.trans e2)⟩⟩⟩
theorem e_op {op : Operator} {r : D2} (ho : OpR X (binaryOp op) (lo2 X.K r)) (ha : E3 X a ga) (hb : E3 X b gb) : E3 X (.BinOp a op b pos) (gOp r ga gb) := PEimp (pe_op ho ha hb) fun _ _ _ h => lo_op h
theorem e_cmp {op : CmpOp} {r : D2} (ho : OpR X (compareOp op) (lo2 X.K r)) (ha : E3 X a ga) (hb : E3 X b gb) (hm : behindInMarks op b = false) : E3 X (.Compare a [op] [b] pos) (gOp r ga gb) := PEimp (pe_cmpR ho ha hb hm) fun _ _ _ h => lo_op h
@[simp] def gTest (g : GE) : GT := fun ρ h Q => g ρ h fun d h1 => ∃ k, d = .bl k ∧ Q k h1
theorem lo_test {K : PySem.W.Frag} {g : GE} {t : TE} (i : ∀ σ H Q, lo K g σ H Q → t σ H Q) {σ : St} {H : Hp} {Q : Bool → Hp → Prop} (h : loT K (gTest g) σ H Q) : t σ H fun x H' => ∃ k, x = .bl k ∧ Q k H' := by
  obtain ⟨ρ, w, Q3, e, gd, q, out⟩ := h
  subst e
  refine i _ _ _ ⟨ρ, w, _, rfl, gd, q, fun d w' v ⟨k, e, q'⟩ r e1 p => ?_⟩
  subst e
  cases p
  exact ⟨k, rfl, out k w' q' r e1⟩
theorem t_cmp {op : CmpOp} {r : D2} (ho : OpR X (compareOp op) (lo2 X.K r)) (ha : E3 X a ga) (hb : E3 X b gb) (hm : behindInMarks op b = false) : T3 X (.Compare a [op] [b] pos) (gTest (gOp r ga gb)) := PTimp (pt_cmpR ho ha hb hm) fun _ _ _ h => lo_test (fun _ _ _ => lo_op) h
@[simp] def gChain (r r' : D2) (ga gb gc : GE) : GE := fun ρ h Q => ga ρ h fun x h1 => gb ρ h1 fun y h2 => r x y h2 fun z h3 => ∃ k, z = .bl k ∧ if k = true then gc ρ h3 fun u h4 => r' y u h4 Q else Q (.bl false) h3
theorem lo_chain {K : PySem.W.Frag} {r r' : D2} {σ : St} {H : Hp} {Q : VK} (h : lo K (gChain r r' ga gb gc) σ H Q) : tChain (lo2 K r) (lo2 K r') (lo K ga) (lo K gb) (lo K gc) σ H Q := by
  obtain ⟨ρ, w, Q3, e, gd, q, out⟩ := h
  subst e
  refine ⟨ρ, w, _, rfl, gd, q, fun d1 w1 v1 q1 r1 e1 p1 => ⟨ρ, w1, _, rfl, gd.ext r1 e1, q1, fun d2 w2 v2 q2 r2 e2 p2 => ⟨d1, d2, w2, _, rfl, r2, p1.ext e2, p2, q2, fun d3 w3 v3 ⟨k, e, q3⟩ r3 e3 p3 => ?_⟩⟩⟩
  subst e
  cases p3
  refine ⟨k, rfl, ?_⟩
  cases k with
  | false =>
    rw [if_neg Bool.false_ne_true] at q3 ⊢
    exact out (.bl false) w3 _ q3 r3 ((e1.trans e2).trans e3) (.bl false)
  | true =>
    rw [if_pos rfl] at q3 ⊢
    exact ⟨ρ, w3, _, rfl, (gd.ext r1 e1).ext r3 (e2.trans e3), q3, fun d4 w4 v4 q4 r4 e4 p4 => ⟨d2, d4, w4, Q3, rfl, r4, p2.ext (e3.trans e4), p4, q4, out.ext (((e1.trans e2).trans e3).trans e4)⟩⟩
theorem e_chain {op op' : CmpOp} {r r' : D2} (ho : OpR X (compareOp op) (lo2 X.K r)) (ho' : OpR X (compareOp op') (lo2 X.K r')) (ha : E3 X a ga) (hb : E3 X b gb) (hc : E3 X c gc) (hm : lastMarks [op, op'] [b, c] = false := by with_unfolding_all rfl) :
    E3 X (.Compare a [op, op'] [b, c] pos) (gChain r r' ga gb gc) := PEimp (pe_chain ho ho' ha hb hc hm) fun _ _ _ h => lo_chain h
theorem t_chain {op op' : CmpOp} {r r' : D2} (ho : OpR X (compareOp op) (lo2 X.K r)) (ho' : OpR X (compareOp op') (lo2 X.K r')) (ha : E3 X a ga) (hb : E3 X b gb) (hc : E3 X c gc) (hm : lastMarks [op, op'] [b, c] = false := by with_unfolding_all rfl) :
    T3 X (.Compare a [op, op'] [b, c] pos) (gTest (gChain r r' ga gb gc)) := PTimp (pt_chain ho ho' ha hb hc hm) fun _ _ _ h => lo_test (fun _ _ _ => lo_chain) h
/-- an expression that gives True or False, as a test -/
theorem t_val (ha : E3 X a ga) (he : ∀ whole, isTrue a X.env whole = (do let v ← whole; standAt a.pos; holding [v] (truthy v)) := by intro _; rfl) : T3 X a (gTest ga) := PTimp (pt_val ha he) fun _ _ _ h => lo_test (fun _ _ _ z => z) h
theorem t_and1 {g : GT} (ha : T3 X a g) : W3 X (.BoolOp .And [a] pos) g := pw_and1 ha
theorem t_or1 {g : GT} (ha : T3 X a g) : W3 X (.BoolOp .Or [a] pos) g := pw_or1 ha
@[simp] def gAndT (g k : GT) : GT := fun ρ h Q => g ρ h fun b h1 => if b = true then k ρ h1 Q else Q false h1
@[simp] def gOrT (g k : GT) : GT := fun ρ h Q => g ρ h fun b h1 => if b = true then Q true h1 else k ρ h1 Q
@[simp] def gNotT (g : GT) : GT := fun ρ h Q => g ρ h fun b h1 => Q (!b) h1
variable {g k : GT} {rest : List Expr}
theorem t_and (ha : T3 X a g) (hb : W3 X (.BoolOp .And (b :: rest) pos) k) : W3 X (.BoolOp .And (a :: b :: rest) pos) (gAndT g k) := PWimp (pw_and ha hb) fun σ H Q ⟨ρ, w, Q3, e, gd, q, out⟩ => by
  subst e
  refine ⟨ρ, w, _, rfl, gd, q, fun c w1 q1 r1 e1 => ?_⟩
  cases c with
  | false => exact out false w1 q1 r1 e1
  | true => exact ⟨ρ, w1, Q3, rfl, gd.ext r1 e1, q1, out.ext e1⟩
theorem t_or (ha : T3 X a g) (hb : W3 X (.BoolOp .Or (b :: rest) pos) k) : W3 X (.BoolOp .Or (a :: b :: rest) pos) (gOrT g k) := PWimp (pw_or ha hb) fun σ H Q ⟨ρ, w, Q3, e, gd, q, out⟩ => by
  subst e
  refine ⟨ρ, w, _, rfl, gd, q, fun c w1 q1 r1 e1 => ?_⟩
  cases c with
  | true => exact out true w1 q1 r1 e1
  | false => exact ⟨ρ, w1, Q3, rfl, gd.ext r1 e1, q1, out.ext e1⟩
theorem t_w (h : W3 X a g) : T3 X a g := PW.pt h
theorem t_not (ha : T3 X a g) : T3 X (.UnaryOp .Not a pos) (gNotT g) := PTimp (pt_not ha) fun σ H Q ⟨ρ, w, Q3, e, gd, q, out⟩ => by
  subst e
  exact ⟨ρ, w, _, rfl, gd, q, fun c w1 q1 r1 e1 => out (!c) w1 q1 r1 e1⟩
/-! .. as values -/
@[simp] def gAnd (ga gb : GE) : GE := fun ρ h Q => ga ρ h fun x h1 => ∃ k, x = .bl k ∧ if k = true then gb ρ h1 Q else Q (.bl false) h1
@[simp] def gOr (ga gb : GE) : GE := fun ρ h Q => ga ρ h fun x h1 => ∃ k, x = .bl k ∧ if k = true then Q (.bl true) h1 else gb ρ h1 Q
@[simp] def gNot (ga : GE) : GE := fun ρ h Q => ga ρ h fun x h1 => ∃ k, x = .bl k ∧ Q (.bl (!k)) h1
theorem e_one {op : BoolOp} (h : E3 X a ga) : E3 X (.BoolOp op [a] pos) ga := pe_one h
theorem e_and (ha : E3 X a ga) (hb : E3 X (.BoolOp .And (b :: rest) pos) gb) : E3 X (.BoolOp .And (a :: b :: rest) pos) (gAnd ga gb) := PEimp (pe_and ha hb) fun σ H Q ⟨ρ, w, Q3, e, gd, q, out⟩ => by
  subst e
  refine ⟨ρ, w, _, rfl, gd, q, fun d w1 v ⟨k, e, q1⟩ r1 e1 p1 => ?_⟩
  subst e
  cases p1
  refine ⟨k, rfl, ?_⟩
  cases k with
  | false => exact out _ w1 _ q1 r1 e1 (.bl false)
  | true => exact ⟨ρ, w1, Q3, rfl, gd.ext r1 e1, q1, out.ext e1⟩
theorem e_or (ha : E3 X a ga) (hb : E3 X (.BoolOp .Or (b :: rest) pos) gb) : E3 X (.BoolOp .Or (a :: b :: rest) pos) (gOr ga gb) := PEimp (pe_or ha hb) fun σ H Q ⟨ρ, w, Q3, e, gd, q, out⟩ => by
  subst e
  refine ⟨ρ, w, _, rfl, gd, q, fun d w1 v ⟨k, e, q1⟩ r1 e1 p1 => ?_⟩
  subst e
  cases p1
  refine ⟨k, rfl, ?_⟩
  cases k with
  | true => exact out _ w1 _ q1 r1 e1 (.bl true)
  | false => exact ⟨ρ, w1, Q3, rfl, gd.ext r1 e1, q1, out.ext e1⟩
theorem e_not (ha : E3 X a ga) : E3 X (.UnaryOp .Not a pos) (gNot ga) := PEimp (pe_not ha) fun σ H Q ⟨ρ, w, Q3, e, gd, q, out⟩ => by
  subst e
  refine ⟨ρ, w, _, rfl, gd, q, fun d w1 v ⟨k, e, q1⟩ r1 e1 p1 => ?_⟩
  subst e
  cases p1
  exact ⟨k, rfl, out _ w1 _ q1 r1 e1 (.bl _)⟩
@[simp] def gIf (g : GT) (ga gb : GE) : GE := fun ρ h Q => g ρ h fun k h1 => if k = true then ga ρ h1 Q else gb ρ h1 Q
theorem e_if (hc : T3 X c g) (ha : E3 X a ga) (hb : E3 X b gb) : E3 X (.IfExp c a b pos) (gIf g ga gb) := PEimp (pe_ifExp hc ha hb) fun σ H Q ⟨ρ, w, Q3, e, gd, q, out⟩ => by
  subst e
  refine ⟨ρ, w, _, rfl, gd, q, fun d w1 q1 r1 e1 => ?_⟩
  cases d with
  | true => exact ⟨ρ, w1, Q3, rfl, gd.ext r1 e1, q1, out.ext e1⟩
  | false => exact ⟨ρ, w1, Q3, rfl, gd.ext r1 e1, q1, out.ext e1⟩
/-! ### argument lists, displays -/
@[simp] def gNil : GA := fun _ h Q => Q [] h
@[simp] def gCons (g : GE) (r : GA) : GA := fun ρ h Q => g ρ h fun d h1 => r ρ h1 fun ds h2 => Q (d :: ds) h2
variable {e : Expr} {es : List Expr} {gs : GA} {ge : GE}
theorem a_nil : A3 X [] gNil := PAimp pa_nil fun σ H Q ⟨ρ, w, Q3, e, gd, q, out⟩ => by
  subst e
  exact out [] w [] q gd.rel (Ext.refl w) .nil
theorem a_cons (ha : E3 X e ge) (hr : A3 X es gs) (hs : starEach (e :: es) X.env = (false, eval e X.env) :: starEach es X.env := by rfl) : A3 X (e :: es) (gCons ge gs) := PAimp (pa_cons ha hr hs) fun σ H Q ⟨ρ, w, Q3, e, gd, q, out⟩ => by
  subst e
  exact ⟨ρ, w, _, rfl, gd, q, fun d1 w1 v1 q1 r1 e1 p1 => ⟨ρ, w1, _, rfl, gd.ext r1 e1, q1, fun ds w2 vs q2 r2 e2 p2 => out _ w2 _ q2 r2 (e1.trans e2) (.cons (p1.ext e2) p2)⟩⟩
@[simp] def gTup (g : GA) : GE := fun ρ h Q => g ρ h fun ds h1 => ds.length ≤ sizeLine ∧ Q (.tup ds) h1
@[simp] def gLst (g : GA) : GE := fun ρ h Q => g ρ h fun ds h1 => ds.length ≤ sizeLine ∧ Q (.lst ds) h1
@[simp] def gMLst (g : GA) : GE := fun ρ h Q => g ρ h fun ds h1 => ds.length ≤ sizeLine ∧ ∀ p, h1 p = none → Q (.ref p) (mput h1 p (.lst ds))
theorem new_tup {K : PySem.W.Frag} {w : Wd} {ds : List Dv} {xs : List V} {p : Addr} (r : Rel K w) (ra : RpAll K w ds xs) (e : w.H p = none) :
    Rel K ⟨w.h, upd w.G p (.tup xs), upd w.H p (.tup xs)⟩ ∧ Ext w ⟨w.h, upd w.G p (.tup xs), upd w.H p (.tup xs)⟩ ∧ Rp K ⟨w.h, upd w.G p (.tup xs), upd w.H p (.tup xs)⟩ (.tup ds) (.ref p) := by
  obtain ⟨a, b⟩ := r.newF e (.tup xs)
  exact ⟨a, b, .tup (.inl ⟨(r.hnone e).2, upd_same⟩) (ra.ext b)⟩
theorem new_lst {K : PySem.W.Frag} {w : Wd} {ds : List Dv} {xs : List V} {p : Addr} (r : Rel K w) (ra : RpAll K w ds xs) (e : w.H p = none) :
    Rel K ⟨w.h, upd w.G p (.lst xs), upd w.H p (.lst xs)⟩ ∧ Ext w ⟨w.h, upd w.G p (.lst xs), upd w.H p (.lst xs)⟩ ∧ Rp K ⟨w.h, upd w.G p (.lst xs), upd w.H p (.lst xs)⟩ (.lst ds) (.ref p) := by
  obtain ⟨a, b⟩ := r.newF e (.lst xs)
  exact ⟨a, b, .lst (.inl ⟨(r.hnone e).2, upd_same⟩) (ra.ext b)⟩
theorem put_lst {K : PySem.W.Frag} {w : Wd} {ds : List Dv} {xs : List V} {p : Addr} (r : Rel K w) (ra : RpAll K w ds xs) (e : w.H p = none ∨ ∃ m, w.h p = some m) :
    Rel K ⟨mput w.h p (.lst ds), upd w.G p (.lst xs), upd w.H p (.lst xs)⟩ ∧ Ext w ⟨mput w.h p (.lst ds), upd w.G p (.lst xs), upd w.H p (.lst xs)⟩ := r.put e fun v ex g => ⟨xs, g, ra.ext ex⟩
theorem e_tup {x1} (h : A3 X es gs) : E3 X (.Tuple es x1 pos) (gTup gs) := PEimp (pe_tup h) fun σ H Q ⟨ρ, w, Q3, e, gd, q, out⟩ => by
  subst e
  refine ⟨ρ, w, _, rfl, gd, q, fun ds w1 vs ⟨hz, q1⟩ r1 e1 p1 => ⟨by rw [← p1.length]; exact hz, fun p np => ?_⟩⟩
  obtain ⟨r2, e2, p2⟩ := new_tup r1 p1 np
  exact out (.tup ds) ⟨w1.h, upd w1.G p (.tup vs), upd w1.H p (.tup vs)⟩ _ q1 r2 (e1.trans e2) p2
theorem e_lst (h : A3 X es gs) : E3 X (.List es pos) (gLst gs) := PEimp (pe_lst h) fun σ H Q ⟨ρ, w, Q3, e, gd, q, out⟩ => by
  subst e
  refine ⟨ρ, w, _, rfl, gd, q, fun ds w1 vs ⟨hz, q1⟩ r1 e1 p1 => ⟨by rw [← p1.length]; exact hz, fun p np => ?_⟩⟩
  obtain ⟨r2, e2, p2⟩ := new_lst r1 p1 np
  exact out (.lst ds) ⟨w1.h, upd w1.G p (.lst vs), upd w1.H p (.lst vs)⟩ _ q1 r2 (e1.trans e2) p2
theorem e_mlst (h : A3 X es gs) : E3 X (.List es pos) (gMLst gs) := PEimp (pe_lst h) fun σ H Q ⟨ρ, w, Q3, e, gd, q, out⟩ => by
  subst e
  refine ⟨ρ, w, _, rfl, gd, q, fun ds w1 vs ⟨hz, q1⟩ r1 e1 p1 => ⟨by rw [← p1.length]; exact hz, fun p np => ?_⟩⟩
  obtain ⟨r2, e2⟩ := put_lst (p := p) r1 p1 (.inl np)
  exact out (.ref p) ⟨mput w1.h p (.lst ds), upd w1.G p (.lst vs), upd w1.H p (.lst vs)⟩ _ (q1 p (r1.hnone np).2) r2 (e1.trans e2) (.ref p)
end
end G3

namespace G3
open PySem L2

/-! ### trees as plain data -/
mutual
def py : Dv → PyData
  | .non => .none
  | .bl b => .bool b
  | .int i => .int i
  | .str x => .str x
  | .tup ds => .tuple (pys ds)
  | .lst ds => .list (pys ds)
  | .ref _ => .none
  | .obj _ => .none
  | .ty _ => .none
def pys : List Dv → List PyData
  | [] => []
  | d :: ds => py d :: pys ds
end
mutual
/-- nothing but plain data within -/
@[simp] def dat : Dv → Bool
  | .ref _ => false
  | .obj _ => false
  | .ty _ => false
  | .tup ds => dats ds
  | .lst ds => dats ds
  | .non => true
  | .bl _ => true
  | .int _ => true
  | .str _ => true
@[simp] def dats : List Dv → Bool
  | [] => true
  | d :: ds => dat d && dats ds
end
mutual
@[simp] def dep : Dv → Nat
  | .tup ds => deps ds + 1
  | .lst ds => deps ds + 1
  | .ref _ => 0
  | .obj _ => 0
  | .ty _ => 0
  | .non => 0
  | .bl _ => 0
  | .int _ => 0
  | .str _ => 0
@[simp] def deps : List Dv → Nat
  | [] => 0
  | d :: ds => max (dep d) (deps ds)
end
mutual
/-- == -/
@[simp] def deq : Dv → Dv → Bool
  | .non, b => match b with | .non => true | _ => false
  | .bl a, b => match b with | .bl b => a == b | .int j => (if a then 1 else 0) == j | _ => false
  | .int i, b => match b with | .bl b => i == (if b then 1 else 0) | .int j => i == j | _ => false
  | .str x, b => match b with | .str y => x == y | _ => false
  | .tup xs, b => match b with | .tup ys => deqs xs ys | _ => false
  | .lst xs, b => match b with | .lst ys => deqs xs ys | _ => false
  | .ref _, _ => false
  | .obj _, _ => false
  | .ty _, _ => false
@[simp] def deqs : List Dv → List Dv → Bool
  | [], ys => match ys with | [] => true | _ => false
  | x :: xs, ys => match ys with | y :: ys => deq x y && deqs xs ys | [] => false
end
mutual
theorem plain_py : ∀ d : Dv, (py d).plain = true
  | .non | .bl _ | .int _ | .str _ | .ref _ | .obj _ | .ty _ => by simp [py, PyData.plain]
  | .tup ds => by simp [py, PyData.plain, plain_pys ds]
  | .lst ds => by simp [py, PyData.plain, plain_pys ds]
theorem plain_pys : ∀ ds : List Dv, PyData.plainAll (pys ds) = true
  | [] => by simp [pys, PyData.plainAll]
  | d :: ds => by simp [pys, PyData.plainAll, plain_py d, plain_pys ds]
end
mutual
theorem depth_py : ∀ d : Dv, (py d).depth = dep d
  | .non | .bl _ | .int _ | .str _ | .ref _ | .obj _ | .ty _ => by simp [py, PyData.depth, dep]
  | .tup ds => by simp [py, PyData.depth, dep, depth_pys ds]
  | .lst ds => by simp [py, PyData.depth, dep, depth_pys ds]
theorem depth_pys : ∀ ds : List Dv, PyData.depthAll (pys ds) = deps ds
  | [] => by simp [pys, PyData.depthAll, deps]
  | d :: ds => by simp [pys, PyData.depthAll, deps, depth_py d, depth_pys ds]
end
mutual
theorem eqv_py : ∀ a b : Dv, dat a = true → dat b = true → PyData.eqv (py a) (py b) = deq a b
  | .non, b, _, hb => by cases b <;> first | (simp [dat] at hb; done) | simp [py, PyData.eqv, deq]
  | .bl _, b, _, hb => by cases b <;> first | (simp [dat] at hb; done) | simp [py, PyData.eqv, deq]
  | .int _, b, _, hb => by cases b <;> first | (simp [dat] at hb; done) | simp [py, PyData.eqv, deq]
  | .str _, b, _, hb => by cases b <;> first | (simp [dat] at hb; done) | simp [py, PyData.eqv, deq]
  | .tup xs, b, ha, hb => by
    cases b <;> first
      | (simp [dat] at hb; done)
      | simp [py, PyData.eqv, deq]; done
      | (simp only [py, PyData.eqv, deq]; exact eqv_pys xs _ (by simpa [dat] using ha) (by simpa [dat] using hb))
  | .lst xs, b, ha, hb => by
    cases b <;> first
      | (simp [dat] at hb; done)
      | simp [py, PyData.eqv, deq]; done
      | (simp only [py, PyData.eqv, deq]; exact eqv_pys xs _ (by simpa [dat] using ha) (by simpa [dat] using hb))
  | .ref _, _, ha, _ => by simp [dat] at ha
  | .obj _, _, ha, _ => by simp [dat] at ha
  | .ty _, _, ha, _ => by simp [dat] at ha
theorem eqv_pys : ∀ xs ys : List Dv, dats xs = true → dats ys = true → PyData.eqvAll (pys xs) (pys ys) = deqs xs ys
  | [], [], _, _ => by simp [pys, PyData.eqvAll, deqs]
  | [], _ :: _, _, _ => by simp [pys, PyData.eqvAll, deqs]
  | _ :: _, [], _, _ => by simp [pys, PyData.eqvAll, deqs]
  | x :: xs, y :: ys, ha, hb => by
    simp only [dats, Bool.and_eq_true] at ha hb
    simp only [pys, PyData.eqvAll, deqs, eqv_py x y ha.1 hb.1, eqv_pys xs ys ha.2 hb.2]
end
section
variable {K : PySem.W.Frag} {w : Wd}
mutual
theorem Rp.dp (r : Rel K w) : ∀ (d : Dv) (v : V), Rp K w d v → dat d = true → Dp K w.H v (py d)
  | .non, _, h, _ => by cases h; exact .non
  | .bl _, _, h, _ => by cases h; exact .bl _
  | .int _, _, h, _ => by cases h; exact .int _
  | .str _, _, h, _ => by cases h; exact .str _
  | .tup ds, _, h, hd => by
    cases h with
    | tup t a => exact .tup (r.sqT t) (RpAll.dp r ds _ a (by simpa [dat] using hd))
  | .lst ds, _, h, hd => by
    cases h with
    | lst t a => exact .lst (r.sqL t) (RpAll.dp r ds _ a (by simpa [dat] using hd))
  | .ref _, _, _, hd => by simp [dat] at hd
  | .obj _, _, _, hd => by simp [dat] at hd
  | .ty _, _, _, hd => by simp [dat] at hd
theorem RpAll.dp (r : Rel K w) : ∀ (ds : List Dv) (vs : List V), RpAll K w ds vs → dats ds = true → DpAll K w.H vs (pys ds)
  | [], _, h, _ => by cases h; exact .nil
  | d :: ds, _, h, hd => by
    simp only [dats, Bool.and_eq_true] at hd
    cases h with
    | cons a b => exact .cons (Rp.dp r d _ a hd.1) (RpAll.dp r ds _ b hd.2)
end
/-- the items of a list, frozen or not -/
def lstOf (h : Mh) : Dv → Option (List Dv)
  | .lst ds => some ds
  | .ref a => match h a with | some (.lst ds) => some ds | _ => none
  | _ => none
theorem lstOf_at (r : Rel K w) {d : Dv} {v : V} {ds : List Dv} (p : Rp K w d v) (e : lstOf w.h d = some ds) : ∃ a xs, v = .ref a ∧ SqL K w.H a xs ∧ RpAll K w ds xs := by
  cases p with
  | lst t a => cases e; exact ⟨_, _, rfl, r.sqL t, a⟩
  | ref a =>
    simp only [lstOf] at e
    split at e
    · rename_i ds' h
      cases e
      obtain ⟨xs, _, hH, ra⟩ := r.mlst h
      exact ⟨a, xs, rfl, .inl (.inl hH), ra⟩
    · cases e
  | _ => cases e
/-- the items of a list or tuple -/
def seqOf (h : Mh) : Dv → Option (List Dv)
  | .tup ds => some ds
  | d => lstOf h d
theorem seqOf_at (r : Rel K w) {d : Dv} {v : V} {ds : List Dv} (p : Rp K w d v) (e : seqOf w.h d = some ds) : ∃ a xs, v = .ref a ∧ (SqL K w.H a xs ∨ SqT K w.H a xs) ∧ RpAll K w ds xs := by
  have go : lstOf w.h d = some ds → ∃ a xs, v = .ref a ∧ (SqL K w.H a xs ∨ SqT K w.H a xs) ∧ RpAll K w ds xs := fun e => by
    obtain ⟨a, xs, e1, e2, e3⟩ := lstOf_at r p e
    exact ⟨a, xs, e1, .inl e2, e3⟩
  cases p with
  | tup t a => cases e; exact ⟨_, _, rfl, .inr (r.sqT t), a⟩
  | lst t a => exact go e
  | ref a => exact go e
  | _ => cases e
end

/-! ### == and its kin -/
section
variable {X : Cx}
@[simp] def okE (d : Dv) : Prop := dat d = true ∧ dep d ≤ 60
@[simp] def rEqD3 (neg : Bool) : D2 := fun a b h Q => okE a ∧ okE b ∧ Q (.bl (if neg then !deq a b else deq a b)) h
theorem reads_of {pins : List (Addr × Obj)} {σ : St} {H : Hp} {s : Shared} (I : Inv X pins σ H s) {w : Wd} {a : Dv} {x : V} {v : Value} (e : w.H = H) (r : Rel X.K w) (p : Rp X.K w a x) (rx : RelV x v) (ha : dat a = true) : ∃ as, Reads s.heap v (py a) as := by
  subst e
  exact Dp.reads I (py a) x v (Rp.dp r a x p ha) rx
theorem o_eq (hu : X.A.units + 64 < cLine) : OpR X (compareOp .Eq) (lo2 X.K (rEqD3 false)) := by
  intro pins s σ H x y v u Q I rx ry h
  obtain ⟨a, b, w, Q3, e, r, pa, pb, ⟨oa, ob, q⟩, out⟩ := h
  obtain ⟨as, r1⟩ := reads_of I e r pa rx oa.1
  obtain ⟨bs, r2⟩ := reads_of I e r pb ry ob.1
  subst e
  refine SeqAt.eq_plain r1 r2 (plain_py a) (plain_py b) (by rw [depth_py, depth_py]; have := oa.2; omega) ⟨.bl _, w.H, I, rfl, ?_⟩
  rw [eqv_py a b oa.1 ob.1]
  exact out _ w _ q r (Ext.refl w) (.bl _)
theorem o_ne (hu : X.A.units + 64 < cLine) : OpR X (compareOp .NotEq) (lo2 X.K (rEqD3 true)) := by
  intro pins s σ H x y v u Q I rx ry h
  obtain ⟨a, b, w, Q3, e, r, pa, pb, ⟨oa, ob, q⟩, out⟩ := h
  obtain ⟨as, r1⟩ := reads_of I e r pa rx oa.1
  obtain ⟨bs, r2⟩ := reads_of I e r pb ry ob.1
  subst e
  refine SeqAt.ne_plain r1 r2 (plain_py a) (plain_py b) (by rw [depth_py, depth_py]; have := oa.2; omega) ⟨.bl _, w.H, I, rfl, ?_⟩
  rw [eqv_py a b oa.1 ob.1]
  exact out _ w _ q r (Ext.refl w) (.bl _)
/-- x in s: a text in a text, a thing in a list or tuple -/
def strIn (x z : Str) : Bool := !(Builtin.Str.occurrences z x 0 z.length 1).isEmpty
@[simp] def isIn (x : Dv) (ds : List Dv) : Bool := ds.any fun y => deq y x
@[simp] def okIn (x : Dv) (ds : List Dv) : Prop := dat x = true ∧ dats ds = true ∧ dep x ≤ 60
def rInD (neg : Bool) : D2 := fun a b h Q => (∃ x z, a = .str x ∧ b = .str z ∧ Q (.bl (if neg then !strIn x z else strIn x z)) h) ∨
  (∃ ds, seqOf h b = some ds ∧ okIn a ds ∧ Q (.bl (if neg then !isIn a ds else isIn a ds)) h)
theorem any_pys {x : Dv} (hx : dat x = true) : ∀ ds : List Dv, dats ds = true → ((pys ds).any fun y => PyData.eqv y (py x)) = isIn x ds
  | [], _ => rfl
  | d :: ds, h => by
    simp only [dats, Bool.and_eq_true] at h
    simp only [pys, List.any_cons, isIn, eqv_py d x h.1 hx]
    rw [any_pys hx ds h.2]
    rfl
theorem o_in (hu : X.A.units + 64 < cLine) : OpR X (compareOp .In) (lo2 X.K (rInD false)) := by
  intro pins s σ H x y v u Q I rx ry h
  obtain ⟨a, b, w, Q3, e, r, pa, pb, q, out⟩ := h
  subst e
  rcases q with ⟨z, t, rfl, rfl, q⟩ | ⟨ds, hs, ⟨h1, h2, h3⟩, q⟩
  · cases pa
    cases pb
    exact op_in_str pins s σ w.H _ _ v u Q I rx ry ⟨z, t, rfl, rfl, out _ w _ q r (Ext.refl w) (.bl _)⟩
  · obtain ⟨as, r1⟩ := reads_of I rfl r pa rx h1
    obtain ⟨p, xs, rfl, hq, ra⟩ := seqOf_at r pb hs
    cases ry
    have fin : EP X pins σ Q (.bool ((pys ds).any fun y => PyData.eqv y (py a))) s := ⟨.bl _, w.H, I, rfl, by rw [any_pys h1 ds h2]; exact out _ w _ q r (Ext.refl w) (.bl _)⟩
    rcases hq with hq | hq
    · obtain ⟨bs, r2⟩ := Dp.reads I (.list (pys ds)) _ _ (.lst hq (RpAll.dp r ds _ ra h2)) rfl
      exact SeqAt.in_list_data r2 r1 (plain_pys ds) (plain_py a) (by rw [depth_py]; omega) fin
    · obtain ⟨bs, r2⟩ := Dp.reads I (.tuple (pys ds)) _ _ (.tup hq (RpAll.dp r ds _ ra h2)) rfl
      exact SeqAt.in_tuple_data r2 r1 (plain_pys ds) (plain_py a) (by rw [depth_py]; omega) fin
theorem o_notIn (hu : X.A.units + 64 < cLine) : OpR X (compareOp .NotIn) (lo2 X.K (rInD true)) := by
  intro pins s σ H x y v u Q I rx ry h
  obtain ⟨a, b, w, Q3, e, r, pa, pb, q, out⟩ := h
  subst e
  rcases q with ⟨z, t, rfl, rfl, q⟩ | ⟨ds, hs, ⟨h1, h2, h3⟩, q⟩
  · cases pa
    cases pb
    exact op_notin_str pins s σ w.H _ _ v u Q I rx ry ⟨z, t, rfl, rfl, out _ w _ q r (Ext.refl w) (.bl _)⟩
  · obtain ⟨as, r1⟩ := reads_of I rfl r pa rx h1
    obtain ⟨p, xs, rfl, hq, ra⟩ := seqOf_at r pb hs
    cases ry
    have fin : EP X pins σ Q (.bool (!(pys ds).any fun y => PyData.eqv y (py a))) s := ⟨.bl _, w.H, I, rfl, by rw [any_pys h1 ds h2]; exact out _ w _ q r (Ext.refl w) (.bl _)⟩
    rcases hq with hq | hq
    · obtain ⟨bs, r2⟩ := Dp.reads I (.list (pys ds)) _ _ (.lst hq (RpAll.dp r ds _ ra h2)) rfl
      exact SeqAt.notIn_list_data r2 r1 (plain_pys ds) (plain_py a) (by rw [depth_py]; omega) fin
    · obtain ⟨bs, r2⟩ := Dp.reads I (.tuple (pys ds)) _ _ (.tup hq (RpAll.dp r ds _ ra h2)) rfl
      exact SeqAt.notIn_tuple_data r2 r1 (plain_pys ds) (plain_py a) (by rw [depth_py]; omega) fin
/-- is None, is True .. -/
def isNon : Dv → Bool
  | .non => true
  | _ => false
theorem Rp.non_iff {K : PySem.W.Frag} {w : Wd} {d : Dv} {v : V} (p : Rp K w d v) : decide (v = .non) = isNon d := by
  cases p <;> simp [isNon]
@[simp] def rIsD (neg : Bool) : D2 := fun a b h Q => (b = .non ∧ Q (.bl (if neg then !isNon a else isNon a)) h) ∨ ∃ k l, a = .bl k ∧ b = .bl l ∧ Q (.bl (if neg then !(decide (k = l)) else decide (k = l))) h
theorem o_is : OpR X (compareOp .Is) (lo2 X.K (rIsD false)) := by
  intro pins s σ H x y v u Q I rx ry h
  obtain ⟨a, b, w, Q3, e, r, pa, pb, q, out⟩ := h
  subst e
  rcases q with ⟨rfl, q⟩ | ⟨k, l, rfl, rfl, q⟩
  · cases pb
    exact op_isN pins s σ w.H _ _ v u Q I rx ry ⟨rfl, by rw [pa.non_iff]; exact out _ w _ q r (Ext.refl w) (.bl _)⟩
  · cases pa
    cases pb
    exact op_isBl pins s σ w.H _ _ v u Q I rx ry ⟨k, l, rfl, rfl, out _ w _ q r (Ext.refl w) (.bl _)⟩
theorem o_isNot : OpR X (compareOp .IsNot) (lo2 X.K (rIsD true)) := by
  intro pins s σ H x y v u Q I rx ry h
  obtain ⟨a, b, w, Q3, e, r, pa, pb, q, out⟩ := h
  subst e
  rcases q with ⟨rfl, q⟩ | ⟨k, l, rfl, rfl, q⟩
  · cases pb
    exact op_notN pins s σ w.H _ _ v u Q I rx ry ⟨rfl, by rw [pa.non_iff]; exact out _ w _ q r (Ext.refl w) (.bl _)⟩
  · cases pa
    cases pb
    exact op_notBl pins s σ w.H _ _ v u Q I rx ry ⟨k, l, rfl, rfl, out _ w _ q r (Ext.refl w) (.bl _)⟩

/-! ### order and arithmetic of whole numbers -/
@[simp] def rCmpI (f : Int → Int → Bool) : D2 := fun a b h Q => ∃ i j, a = .int i ∧ b = .int j ∧ Q (.bl (f i j)) h
theorem o_cmpI {f : Int → Int → Bool} {op : CmpOp} (ho : OpR X (compareOp op) (rI0 fun i j => .bl (f i j))) : OpR X (compareOp op) (lo2 X.K (rCmpI f)) := by
  intro pins s σ H x y v u Q I rx ry h
  obtain ⟨a, b, w, Q3, e, r, pa, pb, ⟨i, j, rfl, rfl, q⟩, out⟩ := h
  subst e
  cases pa
  cases pb
  exact ho pins s σ w.H _ _ v u Q I rx ry ⟨i, j, rfl, rfl, out _ w _ q r (Ext.refl w) (.bl _)⟩
theorem o_lt : OpR X (compareOp .Lt) (lo2 X.K (rCmpI fun i j => decide (i < j))) := o_cmpI op_lt
theorem o_le : OpR X (compareOp .LtE) (lo2 X.K (rCmpI fun i j => decide (i ≤ j))) := o_cmpI op_le
theorem o_gt : OpR X (compareOp .Gt) (lo2 X.K (rCmpI fun i j => decide (j < i))) := o_cmpI op_gt
theorem o_ge : OpR X (compareOp .GtE) (lo2 X.K (rCmpI fun i j => decide (j ≤ i))) := o_cmpI op_ge
@[simp] def rArI (C : Int → Int → Prop) (f : Int → Int → Int) : D2 := fun a b h Q => ∃ i j, a = .int i ∧ b = .int j ∧ C i j ∧ Q (.int (f i j)) h
theorem o_arI {C : Int → Int → Prop} {f : Int → Int → Int} {g : Value → Value → Sem Value} (ho : OpR X g (rI C fun i j => .int (f i j))) : OpR X g (lo2 X.K (rArI C f)) := by
  intro pins s σ H x y v u Q I rx ry h
  obtain ⟨a, b, w, Q3, e, r, pa, pb, ⟨i, j, rfl, rfl, c, q⟩, out⟩ := h
  subst e
  cases pa
  cases pb
  exact ho pins s σ w.H _ _ v u Q I rx ry ⟨i, j, rfl, rfl, c, out _ w _ q r (Ext.refl w) (.int _)⟩
theorem o_sub : OpR X (binaryOp .Sub) (lo2 X.K (rArI (fun _ _ => True) fun i j => i - j)) := o_arI fun pins s σ H x y v u Q I rx ry ⟨i, j, e1, e2, _, q⟩ => op_sub pins s σ H x y v u Q I rx ry ⟨i, j, e1, e2, q⟩
theorem o_mod : OpR X (binaryOp .Mod) (lo2 X.K (rArI (fun _ j => 0 < j) fun i j => i % j)) := o_arI op_mod
theorem o_fdiv : OpR X (binaryOp .FloorDiv) (lo2 X.K (rArI CDivW fun i j => i / j)) := o_arI op_fdivW
theorem o_pow : OpR X (binaryOp .Pow) (lo2 X.K (rArI CPow fun i j => i ^ j.toNat)) := o_arI op_pow
/-- + : whole numbers, texts, tuples, lists -/
def rAddD : D2 := fun a b h Q => match a, b with
  | .int i, .int j => Q (.int (i + j)) h
  | .str x, .str y => x.length + y.length ≤ sizeLine ∧ Q (.str (x ++ y)) h
  | .tup xs, .tup ys => xs.length + ys.length ≤ sizeLine ∧ Q (.tup (xs ++ ys)) h
  | a, b => ∃ xs ys, lstOf h a = some xs ∧ lstOf h b = some ys ∧ xs.length + ys.length ≤ sizeLine ∧ Q (.lst (xs ++ ys)) h
theorem Inv.latK {pins : List (Addr × Obj)} {σ : St} {H : Hp} {s : Shared} {p : Addr} {xs : List V} (I : Inv X pins σ H s) (h : SqL X.K H p xs) :
    ∃ (its : List Value) (o : Obj) (n : Nat), Vals xs its ∧ xs.length = its.length ∧ xs.length ≤ sizeLine ∧ s.heap.get? p = some o ∧ o.cls = .type "list" ∧ o.dict = none ∧ o.data = .seq its.toArray n := by
  obtain ⟨its, r, ⟨o, n, e, c, d, q⟩, z⟩ := I.list h
  exact ⟨its, o, n, r, r.length, z, e, c, d, q⟩
end
end G3

namespace G3
open PySem L2

section
variable {X : Cx}
/-! ### list + list, any list that is read -/
theorem cat_lst {pins : List (Addr × Obj)} {σ : St} {s : Shared} {w : Wd} {a b : Addr} {xs ys : List V} {ds es : List Dv} {Q3 : Kd} {Q : VK} (I : Inv X pins σ w.H s) (r : Rel X.K w) (ha : SqL X.K w.H a xs) (hb : SqL X.K w.H b ys) (ra : RpAll X.K w ds xs) (rb : RpAll X.K w es ys)
    (hz : ds.length + es.length ≤ sizeLine) (q : Q3 (.lst (ds ++ es)) w.h) (out : Out X.K w Q3 Q) : wpAny (model X.prog X.w) X.A (binaryOp .Add (.ref a) (.ref b)) (EP X pins σ Q) X.xe s := by
  obtain ⟨its, rv, ⟨⟨c1, d1, t1, sl1⟩, n1, ho1, hc1, hd1, ht1⟩, _⟩ := I.list ha
  obtain ⟨its2, rv2, ⟨⟨c2, d2, t2, sl2⟩, n2, ho2, hc2, hd2, ht2⟩, _⟩ := I.list hb
  simp only at hc1 ht1 hc2 ht2
  subst hc1 ht1 hc2 ht2
  have z1 := ra.length
  have z2 := rb.length
  have z3 := rv.length
  have z4 := rv2.length
  refine concat_meets ⟨_, ho1, rfl⟩ ⟨_, ho2, rfl⟩ noFill_list_add seq_list_add PySem.F.slot_list_add PySem.F.entry_list_add (PySem.F.args_list_add_2 _ _)
    (PyProof.Rows.list_addW a b its.toArray its2.toArray n1 n2 d1 d2 sl1 sl2 (by simp only [List.size_toArray]; omega)) ⟨ho1, ho2, ?_⟩
  have ea : its.toArray ++ its2.toArray = (its ++ its2).toArray := by simp
  rw [ea]
  have rr : Vals (xs ++ ys) (its ++ its2) := rv.append rv2
  have np := I.hok.fresh (Nat.le_refl _)
  obtain ⟨r2, e2, p2⟩ := new_lst (p := s.heap.objs.size) r (ra.append rb) np
  refine ⟨.ref s.heap.objs.size, _, I.laid (t' := s.toks) (o := .lst (xs ++ ys)) (fun b ob q => Heap.get?_push_of_some _ q) (Nat.le_refl _) ⟨by rw [List.length_append]; omega, _, _, rr, Heap.get?_push_size _ rfl⟩, rfl, ?_⟩
  exact out.go r2 e2 p2 q
theorem o_add : OpR X (binaryOp .Add) (lo2 X.K rAddD) := by
  intro pins s σ H x y v u Q I rx ry h
  obtain ⟨a, b, w, Q3, e, r, pa, pb, q, out⟩ := h
  subst e
  have lists : (∃ xs ys, lstOf w.h a = some xs ∧ lstOf w.h b = some ys ∧ xs.length + ys.length ≤ sizeLine ∧ Q3 (.lst (xs ++ ys)) w.h) → wpAny (model X.prog X.w) X.A (binaryOp .Add v u) (EP X pins σ Q) X.xe s := fun ⟨xs, ys, h1, h2, h3, h4⟩ => by
    obtain ⟨p, vs, rfl, sq, ra⟩ := lstOf_at r pa h1
    obtain ⟨p2, vs2, rfl, sq2, rb⟩ := lstOf_at r pb h2
    cases rx
    cases ry
    exact cat_lst I r sq sq2 ra rb h3 h4 out
  cases a with
  | int i =>
    cases b with
    | int j =>
      cases pa
      cases pb
      exact op_add pins s σ w.H _ _ v u Q I rx ry ⟨i, j, rfl, rfl, out _ w _ q r (Ext.refl w) (.int _)⟩
    | _ => exact lists q
  | str i =>
    cases b with
    | str j =>
      cases pa
      cases pb
      exact op_add_str pins s σ w.H _ _ v u Q I rx ry ⟨i, j, rfl, rfl, q.1, out _ w _ q.2 r (Ext.refl w) (.str _)⟩
    | _ => exact lists q
  | tup xs =>
    cases b with
    | tup ys =>
      obtain ⟨hz, q⟩ := q
      cases pa with
      | tup ta ra =>
        cases pb with
        | tup tb rb =>
          rename_i p vs p2 vs2
          have z1 := ra.length
          have z2 := rb.length
          refine op_catA pins s σ w.H _ _ v u Q I rx ry ⟨_, _, _, _, rfl, rfl, r.sqT ta, r.sqT tb, by omega, fun e => ?_, fun _ e => ?_, fun _ _ p3 np => ?_⟩
          · have e' : xs = [] := by cases xs with | nil => rfl | cons _ _ => rw [e] at z1; cases z1
            rw [e', List.nil_append] at q
            exact out _ w _ q r (Ext.refl w) (.tup tb rb)
          · have e' : ys = [] := by cases ys with | nil => rfl | cons _ _ => rw [e] at z2; cases z2
            rw [e', List.append_nil] at q
            exact out _ w _ q r (Ext.refl w) (.tup ta ra)
          · obtain ⟨r2, e2, p2⟩ := new_tup (p := p3) r (ra.append rb) np
            exact out.go r2 e2 p2 q
    | _ => exact lists q
  | _ => exact lists q
/-- * of whole numbers -/
theorem o_mulI : OpR X (binaryOp .Mult) (lo2 X.K (rArI CMulW fun i j => i * j)) := o_arI op_mulW
/-- a tuple twice and more -/
def rMulT : D2 := fun a b h Q => ∃ xs k, a = .tup xs ∧ b = .int k ∧ xs ≠ [] ∧ 2 ≤ k ∧ k ≤ 1000 ∧ xs.length ≤ 1000 ∧ Q (.tup (List.replicate k.toNat xs).flatten) h
theorem RpAll.rep {K : PySem.W.Frag} {w : Wd} {ds : List Dv} {xs : List V} (r : RpAll K w ds xs) : ∀ k : Nat, RpAll K w (List.replicate k ds).flatten (List.replicate k xs).flatten
  | 0 => .nil
  | k + 1 => by
    rw [List.replicate_succ, List.replicate_succ, List.flatten_cons, List.flatten_cons]
    exact r.append (RpAll.rep r k)
theorem o_mulT : OpR X (binaryOp .Mult) (lo2 X.K rMulT) := by
  intro pins s σ H x y v u Q I rx ry h
  obtain ⟨a, b, w, Q3, e, r, pa, pb, ⟨xs, k, rfl, rfl, h0, h1, h2, h3, q⟩, out⟩ := h
  subst e
  cases pb
  cases pa with
  | tup ta ra =>
    have z := ra.length
    refine op_repT pins s σ w.H _ _ v u Q I rx ry ⟨_, k, _, rfl, rfl, r.sqT ta, fun e => ?_, h1, h2, by omega, fun p np => ?_⟩
    · rw [e] at z
      cases xs with
      | nil => exact h0 rfl
      | cons _ _ => cases z
    · obtain ⟨r2, e2, p2⟩ := new_tup (p := p) r (ra.rep k.toNat) np
      exact out.go r2 e2 p2 q
def D2or (r r' : D2) : D2 := fun a b h Q => r a b h Q ∨ r' a b h Q
theorem o_or {f : Value → Value → Sem Value} {r r' : D2} (h : OpR X f (lo2 X.K r)) (h' : OpR X f (lo2 X.K r')) : OpR X f (lo2 X.K (D2or r r')) := by
  intro pins s σ H x y v u Q I rx ry q
  obtain ⟨a, b, w, Q3, e, rl, pa, pb, q, out⟩ := q
  rcases q with q | q
  · exact h pins s σ H x y v u Q I rx ry ⟨a, b, w, Q3, e, rl, pa, pb, q, out⟩
  · exact h' pins s σ H x y v u Q I rx ry ⟨a, b, w, Q3, e, rl, pa, pb, q, out⟩
theorem o_mul : OpR X (binaryOp .Mult) (lo2 X.K (D2or (rArI CMulW fun i j => i * j) rMulT)) := o_or o_mulI o_mulT

/-! ### items, slices -/
theorem atI_rp {K : PySem.W.Frag} {w : Wd} {ds : List Dv} {xs : List V} {i : Int} {d : Dv} (r : RpAll K w ds xs) (h : atI ds i = some d) : ∃ x, atI xs i = some x ∧ Rp K w d x := by
  unfold atI at h ⊢
  rw [r.length] at h
  cases e : ixN xs.length i with
  | none => rw [e] at h; cases h
  | some j =>
    rw [e] at h
    exact r.get' h
/-- x[i] of a text, a tuple, a list -/
def rIxD : D2 := fun a b h Q => ∃ i, b = .int i ∧ ((∃ z c, a = .str z ∧ z.length ≤ sizeLine ∧ atI z.cps.toList i = some c ∧ Q (.str ⟨#[c]⟩) h) ∨ (∃ ds d, seqOf h a = some ds ∧ atI ds i = some d ∧ Q d h))
theorem o_ix : IxR X (lo2 X.K rIxD) := by
  intro ve se pins s σ H x y v u Q I rx ry h hsub
  obtain ⟨a, b, w, Q3, e, r, pa, pb, ⟨i, rfl, q⟩, out⟩ := h
  subst e
  cases pb
  rcases q with ⟨z, c, rfl, h1, h2, q⟩ | ⟨ds, d, h1, h2, q⟩
  · cases pa
    exact ix_seq ve se pins s σ w.H _ _ v u Q I rx ry (.inr (.inr ⟨z, i, c, rfl, rfl, h1, h2, out _ w _ q r (Ext.refl w) (.str _)⟩)) hsub
  · obtain ⟨p, xs, rfl, hq, ra⟩ := seqOf_at r pa h1
    obtain ⟨t, h3, rp⟩ := atI_rp ra h2
    rcases hq with hq | hq
    · exact ix_seq ve se pins s σ w.H _ _ v u Q I rx ry (.inl ⟨p, xs, i, t, rfl, rfl, hq, h3, out _ w _ q r (Ext.refl w) rp⟩) hsub
    · exact ix_seq ve se pins s σ w.H _ _ v u Q I rx ry (.inr (.inl ⟨p, xs, i, t, rfl, rfl, hq, h3, out _ w _ q r (Ext.refl w) rp⟩)) hsub
variable {a b : Expr} {ga gb : GE} {pos : Pos}
theorem e_ix (ha : E3 X a ga) (hb : E3 X b gb) (hs : PlainIx b := by exact fun _ _ => rfl) : E3 X (.Subscript a b pos) (gOp rIxD ga gb) := PEimp (pe_ix o_ix ha hb hs) fun _ _ _ h => lo_op h
abbrev GO := Sl → Mh → (Option Int → Mh → Prop) → Prop
def OutO (K : PySem.W.Frag) (w : Wd) (Q3 : Option Int → Mh → Prop) (Q : Option Int → Hp → Prop) : Prop := ∀ b w', Q3 b w'.h → Rel K w' → Ext w w' → Q b w'.H
def loO (K : PySem.W.Frag) (g : GO) : TO := fun σ H Q => ∃ ρ w Q3, w.H = H ∧ Good K ρ w σ ∧ g ρ w.h Q3 ∧ OutO K w Q3 Q
def P3 (X : Cx) (e : Option Expr) (g : GO) : Prop := PO X e (loO X.K g)
@[simp] def gNoPart : GO := fun _ h Q => Q none h
@[simp] def gPart (g : GE) : GO := fun ρ h Q => g ρ h fun d h1 => ∃ i, d = .int i ∧ Q (some i) h1
theorem p_none : P3 X none gNoPart := ⟨fun pins s σ H Q I ⟨ρ, w, Q3, e, gd, q, out⟩ => by
  subst e
  exact po_none.run pins s σ w.H Q I (out none w q gd.rel (Ext.refl w))⟩
theorem p_some (ha : E3 X a ga) : P3 X (some a) (gPart ga) := ⟨fun pins s σ H Q I ⟨ρ, w, Q3, e, gd, q, out⟩ => by
  subst e
  refine (po_some ha).run pins s σ w.H Q I ⟨ρ, w, _, rfl, gd, q, fun d w1 v ⟨i, e, q1⟩ r1 e1 p1 => ?_⟩
  subst e
  cases p1
  exact ⟨i, rfl, out (some i) w1 q1 r1 e1⟩⟩
/-- the items of xs[lo:hi] -/
def cutD (xs : List Dv) (lo hi : Option Int) : List Dv := (xs.drop (HT.sIx xs.length 0 lo)).take (HT.sIx xs.length xs.length hi - HT.sIx xs.length 0 lo)
theorem cut_rp {K : PySem.W.Frag} {w : Wd} {ds : List Dv} {xs : List V} (lo hi : Option Int) (r : RpAll K w ds xs) : RpAll K w (cutD ds lo hi) (cutV xs lo hi) := by
  unfold cutD cutV
  rw [r.length]
  exact (r.drop _).take _
theorem cutD_whole {xs : List Dv} {lo hi : Option Int} (h : HT.sIx xs.length 0 lo = 0 ∧ HT.sIx xs.length xs.length hi = xs.length) : cutD xs lo hi = xs := by
  unfold cutD
  rw [h.1, h.2, List.drop_zero, Nat.sub_zero, List.take_length]
abbrev DSl := Dv → Option Int → Option Int → Mh → Kd → Prop
def rSlD : DSl := fun a lo hi h Q => match a with
  | .str z => z.length ≤ sizeLine ∧ Q (.str (cutS z lo hi)) h
  | .tup ds => Q (.tup (cutD ds lo hi)) h
  | a => ∃ ds, lstOf h a = some ds ∧ Q (.lst (cutD ds lo hi)) h
def loSl (K : PySem.W.Frag) (r : DSl) : V → Option Int → Option Int → Hp → VK → Prop := fun x lo hi H Q => ∃ a w Q3, w.H = H ∧ Rel K w ∧ Rp K w a x ∧ r a lo hi w.h Q3 ∧ Out K w Q3 Q
theorem o_sl : SlR X (loSl X.K rSlD) := by
  intro pins s σ H x v vl vu lo hi sl Q I rx hs pl pu h
  obtain ⟨a, w, Q3, e, r, pa, q, out⟩ := h
  subst e
  have lists : (∃ ds, lstOf w.h a = some ds ∧ Q3 (.lst (cutD ds lo hi)) w.h) → ∃ T id, typeLookup (.type T) "__getitem__" = pure (some (.builtin id)) ∧ s.TypeIs v T ∧ wpAny (model X.prog X.w) X.A (getItem v (.ref sl)) (EP X pins σ Q) X.xe s := fun ⟨ds, h1, q⟩ => by
    obtain ⟨p, xs, e, sq, ra⟩ := lstOf_at r pa h1
    subst e
    refine sl_list pins s σ w.H _ v vl vu lo hi sl Q I rx hs pl pu ⟨p, xs, rfl, sq, fun p np => ?_⟩
    obtain ⟨r2, e2, p2⟩ := new_lst (p := p) r (cut_rp lo hi ra) np
    exact out.go r2 e2 p2 q
  cases a with
  | str z =>
    cases pa
    exact sl_str pins s σ w.H _ v vl vu lo hi sl Q I rx hs pl pu ⟨z, rfl, q.1, out _ w _ q.2 r (Ext.refl w) (.str _)⟩
  | tup ds =>
    cases pa with
    | tup ta ra =>
      refine sl_tupA pins s σ w.H _ v vl vu lo hi sl Q I rx hs pl pu ⟨_, _, rfl, r.sqT ta, fun hw => ?_, fun _ p np => ?_⟩
      · rw [← ra.length] at hw
        have q : Q3 (.tup (cutD ds lo hi)) w.h := q
        rw [cutD_whole hw] at q
        exact out _ w _ q r (Ext.refl w) (.tup ta ra)
      · obtain ⟨r2, e2, p2⟩ := new_tup (p := p) r (cut_rp lo hi ra) np
        exact out.go r2 e2 p2 q
  | _ => exact lists q
@[simp] def gSl (ga : GE) (gl gh : GO) : GE := fun ρ h Q => ga ρ h fun x h1 => gl ρ h1 fun l h2 => gh ρ h2 fun u h3 => rSlD x l u h3 Q
theorem e_sl {lo hi : Option Expr} {gl gh : GO} {p2 : Pos} (ha : E3 X a ga) (hl : P3 X lo gl) (hh : P3 X hi gh) : E3 X (.Subscript a (.Slice lo hi none p2) pos) (gSl ga gl gh) := PEimp (pe_slice o_sl ha hl hh) fun σ H Q ⟨ρ, w, Q3, e, gd, q, out⟩ => by
  subst e
  exact ⟨ρ, w, _, rfl, gd, q, fun d1 w1 v1 q1 r1 e1 p1 => ⟨ρ, w1, _, rfl, gd.ext r1 e1, q1, fun l w2 q2 r2 e2 => ⟨ρ, w2, _, rfl, (gd.ext r1 e1).ext r2 e2, q2, fun u w3 q3 r3 e3 => ⟨d1, w3, Q3, rfl, r3, (p1.ext e2).ext e3, q3, out.ext ((e1.trans e2).trans e3)⟩⟩⟩⟩

/-! ### calls of built-ins -/
def C3 (X : Cx) (f : Value) (r : DC) : Prop := CallR X f (loC X.K r)
theorem RpAll.one {K : PySem.W.Frag} {w : Wd} {d : Dv} {xs : List V} (r : RpAll K w [d] xs) : ∃ x, xs = [x] ∧ Rp K w d x := by
  cases r with
  | cons a b => cases b; exact ⟨_, rfl, a⟩
theorem RpAll.two {K : PySem.W.Frag} {w : Wd} {d e : Dv} {xs : List V} (r : RpAll K w [d, e] xs) : ∃ x y, xs = [x, y] ∧ Rp K w d x ∧ Rp K w e y := by
  cases r with
  | cons a b =>
    obtain ⟨y, e1, b1⟩ := b.one
    subst e1
    exact ⟨_, y, rfl, a, b1⟩
variable {id T : String} {r : DC} {x : Str} {p : Pos} {e : Expr} {es : List Expr} {gs : GA}
@[simp] def gCall (r : DC) (gs : GA) : GE := fun ρ h Q => gs ρ h fun ds h1 => r ds h1 Q
theorem lo_call {K : PySem.W.Frag} {σ : St} {H : Hp} {Q : VK} (h : lo K (gCall r gs) σ H Q) : tCB (loC K r) (loA K gs) σ H Q := by
  obtain ⟨ρ, w, Q3, e, gd, q, out⟩ := h
  subst e
  exact ⟨ρ, w, _, rfl, gd, q, fun ds w1 vs q1 r1 e1 p1 => ⟨ds, w1, Q3, rfl, r1, p1, q1, out.ext e1⟩⟩
theorem e_callB (hc : C3 X (.builtin id) r) (hg : Gl X x) (hm : X.mg x = none) (hv : bootBuiltins x = some (.builtin id)) (ha : A3 X (e :: es) gs) (hn : x ≠ "__name__" := by decide) (hdb : (x == ("__debug__" : Str)) = false := by decide)
    (he : starEach (e :: es) X.env = (false, eval e X.env) :: starEach es X.env := by rfl) (hpl : (backTo pos (starEach es X.env)).any (·.1) = false := by rfl) : E3 X (.Call (.Name x p) (e :: es) [] pos) (gCall r gs) :=
  PEimp (pe_callB hc hg hm hv ha hn hdb he hpl) fun _ _ _ h => lo_call h
theorem e_callTy (hc : C3 X (.type T) r) (hg : Gl X x) (hm : X.mg x = none) (hv : bootBuiltins x = some (.type T)) (ha : A3 X (e :: es) gs) (hn : x ≠ "__name__" := by decide) (hdb : (x == ("__debug__" : Str)) = false := by decide)
    (he : starEach (e :: es) X.env = (false, eval e X.env) :: starEach es X.env := by rfl) (hpl : (backTo pos (starEach es X.env)).any (·.1) = false := by rfl) : E3 X (.Call (.Name x p) (e :: es) [] pos) (gCall r gs) :=
  PEimp (pe_callTy hc hg hm hv ha hn hdb he hpl) fun _ _ _ h => lo_call h
/-- len -/
def cLen : DC := fun ds h Q => ∃ d, ds = [d] ∧ ((∃ z, d = .str z ∧ z.length ≤ sizeLine ∧ Q (.int z.length) h) ∨ (∃ es, seqOf h d = some es ∧ Q (.int es.length) h))
theorem c_len : C3 X (.builtin "len") cLen := by
  intro pins s σ H xs us Q I rx h
  obtain ⟨ds, w, Q3, e, r, ra, ⟨d, rfl, q⟩, out⟩ := h
  subst e
  obtain ⟨x, rfl, rp⟩ := ra.one
  rcases q with ⟨z, rfl, hz, q⟩ | ⟨es, hs, q⟩
  · cases rp
    exact call_len_str pins s σ w.H _ us Q I rx ⟨z, rfl, hz, out _ w _ q r (Ext.refl w) (.int _)⟩
  · obtain ⟨p, ys, rfl, hq, rb⟩ := seqOf_at r rp hs
    exact call_len_seq pins s σ w.H _ us Q I rx ⟨p, ys, rfl, hq, out _ w _ (by rw [← rb.length]; exact q) r (Ext.refl w) (.int _)⟩
/-- list(x), tuple(x) -/
@[simp] def cList : DC := fun ds h Q => ∃ d es, ds = [d] ∧ seqOf h d = some es ∧ Q (.lst es) h
@[simp] def cMList : DC := fun ds h Q => ∃ d es, ds = [d] ∧ seqOf h d = some es ∧ ∀ p, h p = none → Q (.ref p) (mput h p (.lst es))
@[simp] def cTuple : DC := fun ds h Q => ∃ d es, ds = [d] ∧ seqOf h d = some es ∧ Q (.tup es) h
theorem c_list : C3 X (.type "list") cList := by
  intro pins s σ H xs us Q I rx h
  obtain ⟨ds, w, Q3, e, r, ra, ⟨d, es, rfl, hs, q⟩, out⟩ := h
  subst e
  obtain ⟨x, rfl, rp⟩ := ra.one
  obtain ⟨p, ys, rfl, hq, rb⟩ := seqOf_at r rp hs
  refine call_list_of pins s σ w.H _ us Q I rx ⟨p, ys, rfl, hq, fun l nl => ?_⟩
  obtain ⟨r2, e2, p2⟩ := new_lst (p := l) r rb nl
  exact out.go r2 e2 p2 q
theorem c_mlist : C3 X (.type "list") cMList := by
  intro pins s σ H xs us Q I rx h
  obtain ⟨ds, w, Q3, e, r, ra, ⟨d, es, rfl, hs, q⟩, out⟩ := h
  subst e
  obtain ⟨x, rfl, rp⟩ := ra.one
  obtain ⟨p, ys, rfl, hq, rb⟩ := seqOf_at r rp hs
  refine call_list_of pins s σ w.H _ us Q I rx ⟨p, ys, rfl, hq, fun l nl => ?_⟩
  obtain ⟨r2, e2⟩ := put_lst (p := l) r rb (.inl nl)
  exact out (.ref l) ⟨mput w.h l (.lst es), upd w.G l (.lst ys), upd w.H l (.lst ys)⟩ _ (q l (r.hnone nl).2) r2 e2 (.ref l)
theorem c_tuple : C3 X (.type "tuple") cTuple := by
  intro pins s σ H xs us Q I rx h
  obtain ⟨ds, w, Q3, e, r, ra, ⟨d, es, rfl, hs, q⟩, out⟩ := h
  subst e
  obtain ⟨x, rfl, rp⟩ := ra.one
  have viaList : lstOf w.h d = some es → wpAny (model X.prog X.w) X.A (call (.type "tuple") us) (EP X pins σ Q) X.xe s := fun hs => by
    obtain ⟨p, ys, e, hq, rb⟩ := lstOf_at r rp hs
    subst e
    refine call_tuple_of pins s σ w.H _ us Q I rx ⟨p, ys, rfl, .inl ⟨hq, fun l nl => ?_⟩⟩
    obtain ⟨r2, e2, p2⟩ := new_tup (p := l) r rb nl
    exact out.go r2 e2 p2 q
  cases d with
  | tup ds =>
    cases hs
    cases rp with
    | tup ta rb => exact call_tuple_of pins s σ w.H _ us Q I rx ⟨_, _, rfl, .inr ⟨r.sqT ta, out _ w _ q r (Ext.refl w) (.tup ta rb)⟩⟩
  | _ => exact viaList hs
/-- str(n) -/
@[simp] def cStrI : DC := fun ds h Q => ∃ i, ds = [.int i] ∧ i.natAbs.log2 < 1920 ∧ Q (.str (toString i)) h
theorem c_strI : C3 X (.type "str") cStrI := by
  intro pins s σ H xs us Q I rx h
  obtain ⟨ds, w, Q3, e, r, ra, ⟨i, rfl, hz, q⟩, out⟩ := h
  subst e
  obtain ⟨x, rfl, rp⟩ := ra.one
  cases rp
  exact call_str_int pins s σ w.H _ us Q I rx ⟨i, rfl, hz, out _ w _ q r (Ext.refl w) (.str _)⟩
/-- all, any of a list of truths -/
def cAll : DC := fun ds h Q => ∃ (d : Dv) (bs : List Bool), ds = [d] ∧ lstOf h d = some (bs.map Dv.bl) ∧ Q (.bl (bs.all (fun b => b))) h
def cAny : DC := fun ds h Q => ∃ (d : Dv) (bs : List Bool), ds = [d] ∧ lstOf h d = some (bs.map Dv.bl) ∧ Q (.bl (bs.any (fun b => b))) h
theorem bls_of {K : PySem.W.Frag} {w : Wd} : ∀ {bs : List Bool} {xs : List V}, RpAll K w (bs.map Dv.bl) xs → xs = bs.map V.bl
  | [], _, h => by cases h; rfl
  | b :: bs, _, h => by
    cases h with
    | cons a t => cases a; rw [bls_of t]; rfl
theorem c_all (hc : X.calm = true) : C3 X (.builtin "all") cAll := by
  intro pins s σ H xs us Q I rx h
  obtain ⟨ds, w, Q3, e, r, ra, ⟨d, bs, rfl, hs, q⟩, out⟩ := h
  subst e
  obtain ⟨x, rfl, rp⟩ := ra.one
  obtain ⟨p, ys, rfl, hq, rb⟩ := lstOf_at r rp hs
  rw [bls_of rb] at hq
  exact cr_all hc pins s σ w.H _ us Q I rx ⟨p, bs, rfl, hq, out _ w _ q r (Ext.refl w) (.bl _)⟩
theorem c_any (hc : X.calm = true) : C3 X (.builtin "any") cAny := by
  intro pins s σ H xs us Q I rx h
  obtain ⟨ds, w, Q3, e, r, ra, ⟨d, bs, rfl, hs, q⟩, out⟩ := h
  subst e
  obtain ⟨x, rfl, rp⟩ := ra.one
  obtain ⟨p, ys, rfl, hq, rb⟩ := lstOf_at r rp hs
  rw [bls_of rb] at hq
  exact cr_any hc pins s σ w.H _ us Q I rx ⟨p, bs, rfl, hq, out _ w _ q r (Ext.refl w) (.bl _)⟩
/-- isinstance of a built-in class -/
def tyOf (h : Mh) : Dv → Option String
  | .non => some "NoneType"
  | .bl _ => some "bool"
  | .int _ => some "int"
  | .str _ => some "str"
  | .tup _ => some "tuple"
  | .lst _ => some "list"
  | .ref a => match h a with | some (.lst _) => some "list" | _ => none
  | _ => none
@[simp] def isB (t n : String) : Bool := t == n || t == "bool" && n == "int"
theorem kit_isB {K : PySem.W.Frag} {t n : String} (ht : t ∈ ["NoneType", "bool", "int", "str", "tuple", "list"]) (hn : n ∈ ["bool", "int", "str", "tuple", "list"]) : PySem.W.kitOne K (.type t) (.type n) = some (isB t n) := by
  have all : ∀ t ∈ ["NoneType", "bool", "int", "str", "tuple", "list"], ∀ n ∈ ["bool", "int", "str", "tuple", "list"], kitB t n = some (isB t n) := by decide +kernel
  exact kit_ty (all t ht n hn)
def cIsi : DC := fun ds h Q => ∃ d n t, ds = [d, .ty n] ∧ n ∈ ["bool", "int", "str", "tuple", "list"] ∧ tyOf h d = some t ∧ Q (.bl (isB t n)) h
theorem tyX_of {K : PySem.W.Frag} {w : Wd} (r : Rel K w) {d : Dv} {v : V} {t : String} (p : Rp K w d v) (e : tyOf w.h d = some t) : TyX K w.H v (.type t) ∧ t ∈ ["NoneType", "bool", "int", "str", "tuple", "list"] := by
  cases p with
  | non => cases e; exact ⟨.base .non, by simp⟩
  | bl b => cases e; exact ⟨.base (.bl b), by simp⟩
  | int i => cases e; exact ⟨.base (.int i), by simp⟩
  | str z => cases e; exact ⟨.base (.str z), by simp⟩
  | ty n => cases e
  | obj a => cases e
  | tup ta ra =>
    cases e
    refine ⟨?_, by simp⟩
    rcases r.sqT ta with (z | ⟨o, z⟩) | ⟨o, its, n, z, c, _⟩
    · exact .base (.tup z)
    · exact .fTuple z
    · exact .kTuple z c
  | lst ta ra =>
    cases e
    refine ⟨?_, by simp⟩
    rcases r.sqL ta with (z | ⟨o, z⟩) | ⟨o, its, n, z, c, _⟩
    · exact .base (.lst z)
    · exact .base (.frz z)
    · exact .kList z c
  | ref a =>
    simp only [tyOf] at e
    split at e
    · rename_i ds h
      cases e
      obtain ⟨xs, _, hH, _⟩ := r.mlst h
      exact ⟨.base (.lst hH), by simp⟩
    · cases e
theorem c_isi : C3 X (.builtin "isinstance") cIsi := by
  intro pins s σ H xs us Q I rx h
  obtain ⟨ds, w, Q3, e, r, ra, ⟨d, n, t, rfl, hn, ht, q⟩, out⟩ := h
  subst e
  obtain ⟨x, y, rfl, rp, rq⟩ := ra.two
  cases rq
  obtain ⟨ty, hm⟩ := tyX_of r rp ht
  exact call_isi pins s σ w.H _ us Q I rx ⟨x, .ty n, _, _, _, rfl, .ty n, ty, kit_isB hm hn, out _ w _ q r (Ext.refl w) (.bl _)⟩
mutual
theorem hasDict_py : ∀ d : Dv, (py d).hasDict = false
  | .non | .bl _ | .int _ | .str _ | .ref _ | .obj _ | .ty _ => by simp [py, PyData.hasDict]
  | .tup ds => by simp [py, PyData.hasDict, hasDict_pys ds]
  | .lst ds => by simp [py, PyData.hasDict, hasDict_pys ds]
theorem hasDict_pys : ∀ ds : List Dv, PyData.hasDictAll (pys ds) = false
  | [] => by simp [pys, PyData.hasDictAll]
  | d :: ds => by simp [pys, PyData.hasDictAll, hasDict_py d, hasDict_pys ds]
end
/-- repr of data -/
def shw (d : Dv) : Str := (py d).shown
def okR (d : Dv) : Prop := dat d = true ∧ dep d ≤ 60 ∧ (py d).showable = true ∧ (shw d).length ≤ sizeLine
@[simp] def cRepr : DC := fun ds h Q => ∃ d, ds = [d] ∧ okR d ∧ Q (.str (shw d)) h
theorem c_repr (hg : X.A.guards = some []) (hu : X.A.units + 64 < cLine) : C3 X (.builtin "repr") cRepr := by
  intro pins s σ H xs us Q I rx h
  obtain ⟨ds, w, Q3, e, r, ra, ⟨d, rfl, ⟨hd, hp, hs, hz⟩, q⟩, out⟩ := h
  subst e
  obtain ⟨x, rfl, rp⟩ := ra.one
  obtain ⟨u, rfl, ru⟩ := vals1 rx
  obtain ⟨as, rd⟩ := reads_of I rfl r rp ru hd
  have fin : ∀ t k, (∀ h', (∀ b o, s.heap.get? b = some o → h'.get? b = some o) → EP X pins σ Q (.str (shw d) t) { s with heap := h', toks := k }) := fun t k h' kp =>
    ⟨.str (shw d), w.H, I.kept kp, ⟨t, rfl⟩, out _ w _ q r (Ext.refl w) (.str _)⟩
  have nodict : (py d).hasDict = true → sysModules ∉ as := PyData.noDict_hsm (hasDict_py d)
  cases rp with
  | non => cases ru; exact P.repr_of_none (fin _ _ s.heap fun _ _ e => e)
  | bl b => cases ru; exact P.repr_of_bool (fin _ _ s.heap fun _ _ e => e)
  | int i =>
    obtain ⟨t, rfl⟩ := ru
    exact P.repr_of_int (of_decide_eq_true (by simpa [py, PyData.showable] using hs)) (fin _ _ s.heap fun _ _ e => e)
  | str z =>
    obtain ⟨t, rfl⟩ := ru
    exact P.repr_of_str (fin _ _ s.heap fun _ _ e => e) (by simpa [shw, py, PyData.shown] using hz)
  | tup ta ra =>
    cases ru
    exact repr_of_reads' rd hs nodict hg (by rw [depth_py]; omega) (fun _ _ e => e) (fun h' t k kp => fin t k h' kp) hz
  | lst ta ra =>
    cases ru
    exact repr_of_reads' rd hs nodict hg (by rw [depth_py]; omega) (fun _ _ e => e) (fun h' t k kp => fin t k h' kp) hz
  | _ => simp [dat] at hd
end
end G3

namespace G3
open PySem L2

section
variable {X : Cx}
/-! ### methods of built-in types -/
@[simp] def isTyM (T : String) (h : Mh) (d : Dv) : Prop := (T = "str" ∧ ∃ z, d = .str z) ∨ (T = "list" ∧ ∃ ds, lstOf h d = some ds)
theorem tyV_of {K : PySem.W.Frag} {w : Wd} {T : String} {d : Dv} {v : V} (r : Rel K w) (p : Rp K w d v) (e : isTyM T w.h d) : tyV K T v w.H := by
  rcases e with ⟨rfl, z, rfl⟩ | ⟨rfl, ds, h⟩
  · cases p; rfl
  · obtain ⟨a, xs, rfl, sq, _⟩ := lstOf_at r p h
    exact .inl ⟨rfl, xs, sq⟩
def M3 (X : Cx) (id : String) (r : DM) : Prop := MtR X id (loM X.K r)
variable {o e : Expr} {es : List Expr} {go ge : GE} {gs : GA} {name : Str} {apos cpos pos : Pos} {T id : String} {r : DM}
@[simp] def gBM (T : String) (r : DM) (go : GE) (gs : GA) : GE := fun ρ h Q => go ρ h fun d h1 => isTyM T h1 d ∧ gs ρ h1 fun ds h2 => r d ds h2 Q
theorem e_bm (pa : PlainAttrs T) (slot : Slot T name id) (hty : typeOf (.builtin id) = pure (.type "method_descriptor")) (hm : M3 X id r) (ho : E3 X o go) (ha : A3 X (e :: es) gs)
    (hbase : attributeBase o name X.env (eval o X.env) = eval o X.env := by rfl)
    (hfew : ((backTo cpos (starEach (e :: es) X.env)).all (fun x => !x.1) && (backToKw cpos (keywordEach [] X.env)).all (fun x => x.1.isSome)
      && decide ((e :: es).length + ([] : List Keyword).length + (if ([] : List Keyword).isEmpty then 0 else 1) < 30)) = true := by rfl)
    (hline : (apos.endLine == cpos.line) = true := by rfl) (hs : starEach (e :: es) X.env = (false, eval e X.env) :: starEach es X.env := by rfl) (hplain : (backTo cpos (starEach es X.env)).any (·.1) = false := by rfl) :
    E3 X (.Call (.Attribute o name apos) (e :: es) [] cpos) (gBM T r go gs) := PEimp (pe_bm pa slot hty hm ho ha hbase hfew hline hs hplain) fun σ H Q ⟨ρ, w, Q3, e, gd, q, out⟩ => by
  subst e
  exact ⟨ρ, w, _, rfl, gd, q, fun d1 w1 v1 ⟨t1, q1⟩ r1 e1 p1 => ⟨tyV_of r1 p1 t1, ρ, w1, _, rfl, gd.ext r1 e1, q1, fun ds w2 vs q2 r2 e2 p2 => ⟨d1, ds, w2, Q3, rfl, r2, p1.ext e2, p2, q2, out.ext (e1.trans e2)⟩⟩⟩
@[simp] def gBM0 (T : String) (r : DM) (go : GE) : GE := fun ρ h Q => go ρ h fun d h1 => isTyM T h1 d ∧ r d [] h1 Q
theorem e_bm0 (pa : PlainAttrs T) (slot : Slot T name id) (hty : typeOf (.builtin id) = pure (.type "method_descriptor")) (hm : M3 X id r) (ho : E3 X o go)
    (hbase : attributeBase o name X.env (eval o X.env) = eval o X.env := by rfl) (hline : (apos.endLine == cpos.line) = true := by rfl) : E3 X (.Call (.Attribute o name apos) [] [] cpos) (gBM0 T r go) := PEimp (pe_bm0 pa slot hty hm ho hbase hline) fun σ H Q ⟨ρ, w, Q3, e, gd, q, out⟩ => by
  subst e
  exact ⟨ρ, w, _, rfl, gd, q, fun d1 w1 v1 ⟨t1, q1⟩ r1 e1 p1 => ⟨tyV_of r1 p1 t1, d1, [], w1, Q3, rfl, r1, p1, .nil, q1, out.ext e1⟩⟩
/-- xs.append(y) -/
def mAppend : DM := fun d ds h Q => ∃ a xs y, d = .ref a ∧ ds = [y] ∧ h a = some (.lst xs) ∧ xs.length < sizeLine ∧ Q .non (mput h a (.lst (xs ++ [y])))
theorem m_append : M3 X "list.append" mAppend := by
  intro pins s σ H x xs v us Q I rx rs h
  obtain ⟨d, ds, w, Q3, e, r, p, pa, ⟨a, zs, y, rfl, rfl, hh, hz, q⟩, out⟩ := h
  subst e
  cases p
  obtain ⟨t, rfl, pt⟩ := pa.one
  obtain ⟨ws, hG, hH, ra⟩ := r.mlst hh
  refine mt_append pins s σ w.H _ _ v us Q I rx rs ⟨a, ws, t, rfl, rfl, hH, by rw [← ra.length]; exact hz, ?_⟩
  obtain ⟨r2, e2⟩ := put_lst (p := a) r (ra.append (.cons pt .nil)) (.inr ⟨_, hh⟩)
  exact out.go r2 e2 .non q
/-- xs.pop() -/
def mPop : DM := fun d ds h Q => ∃ a xs y, d = .ref a ∧ ds = [] ∧ h a = some (.lst xs) ∧ xs[xs.length - 1]? = some y ∧ Q y (mput h a (.lst xs.dropLast))
theorem RpAll.dropLast {K : PySem.W.Frag} {w : Wd} {ds : List Dv} {xs : List V} (r : RpAll K w ds xs) : RpAll K w ds.dropLast xs.dropLast := by
  rw [List.dropLast_eq_take, List.dropLast_eq_take, r.length]
  exact r.take _
theorem m_pop : M3 X "list.pop" mPop := by
  intro pins s σ H x xs v us Q I rx rs h
  obtain ⟨d, ds, w, Q3, e, r, p, pa, ⟨a, zs, y, rfl, rfl, hh, hy, q⟩, out⟩ := h
  subst e
  cases p
  cases pa
  obtain ⟨ws, hG, hH, ra⟩ := r.mlst hh
  rw [ra.length] at hy
  obtain ⟨t, ht, rt⟩ := ra.get' hy
  refine mt_pop pins s σ w.H _ _ v us Q I rx rs ⟨a, ws, t, rfl, rfl, hH, ht, ?_⟩
  obtain ⟨r2, e2⟩ := put_lst (p := a) r ra.dropLast (.inr ⟨_, hh⟩)
  exact out.go r2 e2 (rt.ext e2) q
/-- xs.pop(i) -/
def mPopAt : DM := fun d ds h Q => ∃ a xs i k y, d = .ref a ∧ ds = [.int i] ∧ h a = some (.lst xs) ∧ -(2 ^ 63) ≤ i ∧ i < 2 ^ 63 ∧ seqIndex? i xs.length = some k ∧ xs[k]? = some y ∧ Q y (mput h a (.lst (xs.eraseIdx k)))
theorem RpAll.erase {K : PySem.W.Frag} {w : Wd} : ∀ {ds : List Dv} {xs : List V} (i : Nat), RpAll K w ds xs → RpAll K w (ds.eraseIdx i) (xs.eraseIdx i)
  | _, _, _, .nil => .nil
  | _, _, 0, .cons _ b => b
  | _, _, i + 1, .cons a b => .cons a (RpAll.erase i b)
theorem m_popAt : M3 X "list.pop" mPopAt := by
  intro pins s σ H x xs v us Q I rx rs h
  obtain ⟨d, ds, w, Q3, e, r, p, pa, ⟨a, zs, i, k, y, rfl, rfl, hh, h1, h2, hk, hy, q⟩, out⟩ := h
  subst e
  cases p
  obtain ⟨t, rfl, pt⟩ := pa.one
  cases pt
  obtain ⟨ws, hG, hH, ra⟩ := r.mlst hh
  obtain ⟨t, ht, rt⟩ := ra.get' hy
  refine mt_popAt pins s σ w.H _ _ v us Q I rx rs ⟨a, ws, i, k, t, rfl, rfl, hH, h1, h2, by rw [← ra.length]; exact hk, ht, ?_⟩
  obtain ⟨r2, e2⟩ := put_lst (p := a) r (ra.erase k) (.inr ⟨_, hh⟩)
  exact out.go r2 e2 (rt.ext e2) q
theorem strs_of {K : PySem.W.Frag} {w : Wd} : ∀ {ys : List Str} {xs : List V}, RpAll K w (ys.map Dv.str) xs → xs = ys.map V.str
  | [], _, h => by cases h; rfl
  | y :: ys, _, h => by
    cases h with
    | cons a t => cases a; rw [strs_of t]; rfl
theorem of_strs {K : PySem.W.Frag} {w : Wd} : ∀ (ys : List Str), RpAll K w (ys.map Dv.str) (ys.map V.str)
  | [] => .nil
  | y :: ys => .cons (.str y) (of_strs ys)
/-- sep.join(texts) -/
@[simp] def mJoin : DM := fun d ds h Q => ∃ (a : Str) (s : Dv) (ys : List Str), d = .str a ∧ ds = [s] ∧ seqOf h s = some (ys.map Dv.str) ∧ (ys.map (·.length)).sum + ys.length * a.length ≤ 16777216 ∧ Q (.str (Txt.join a ys)) h
theorem m_join : M3 X "str.join" mJoin := by
  intro pins s σ H x xs v us Q I rx rs h
  obtain ⟨d, ds, w, Q3, e, r, p, pa, ⟨a, t, ys, rfl, rfl, hs, hz, q⟩, out⟩ := h
  subst e
  cases p
  obtain ⟨t, rfl, pt⟩ := pa.one
  obtain ⟨l, zs, rfl, hq, ra⟩ := seqOf_at r pt hs
  rw [strs_of ra] at hq
  exact mt_join pins s σ w.H _ _ v us Q I rx rs ⟨a, l, ys, rfl, rfl, hq, hz, out.go r (Ext.refl w) (.str _) q⟩
/-- text.split(sep) -/
@[simp] def mSplit : DM := fun d ds h Q => ∃ a b, d = .str a ∧ ds = [.str b] ∧ (b.length == 0) = false ∧ a.length + 2 ≤ sizeLine ∧ Q (.lst ((Txt.split a b).map Dv.str)) h
theorem m_split : M3 X "str.split" mSplit := by
  intro pins s σ H x xs v us Q I rx rs h
  obtain ⟨d, ds, w, Q3, e, r, p, pa, ⟨a, b, rfl, rfl, hb, hz, q⟩, out⟩ := h
  subst e
  cases p
  obtain ⟨t, rfl, pt⟩ := pa.one
  cases pt
  refine mt_split pins s σ w.H _ _ v us Q I rx rs ⟨a, b, rfl, rfl, hb, hz, fun l nl => ?_⟩
  obtain ⟨r2, e2, p2⟩ := new_lst (p := l) r (of_strs (Txt.split a b)) nl
  exact out.go r2 e2 p2 q

/-! ### statements -/
variable {st : Stmt} {rest : List Stmt} {g g1 g2 : GS}
@[simp] def gNext : GS := fun E ρ h => E.nx ρ h
@[simp] def gSeq (g1 g2 : GS) : GS := fun E ρ h => g1 { E with nx := g2 E } ρ h
theorem b_nil : B3 X [] gNext := PSsimp pss_nil fun D σ H ⟨ρ, w, E, e, gd, q, out⟩ => by
  subst e
  exact out.nx ρ w σ q gd (Ext.refl w)
theorem b_cons (h1 : S3 X st g1) (h2 : B3 X rest g2) : B3 X (st :: rest) (gSeq g1 g2) := PSsimp (pss_cons h1 h2) fun D σ H ⟨ρ, w, E, e, gd, q, out⟩ => by
  subst e
  exact ⟨ρ, w, { E with nx := g2 E }, rfl, gd, q, ⟨fun ρ1 w1 σ1 q1 gd1 e1 => ⟨ρ1, w1, E, rfl, gd1, q1, out.ext e1⟩, out.rt, out.bk, out.ct⟩⟩
theorem b_one (h1 : S3 X st g) : B3 X [st] g := pss_one h1
theorem s_pass : S3 X (.Pass pos) gNext := PSimp ps_pass fun D σ H ⟨ρ, w, E, e, gd, q, out⟩ => by
  subst e
  exact out.nx ρ w σ q gd (Ext.refl w)
@[simp] def gBreak : GS := fun E ρ h => E.bk ρ h
@[simp] def gCont : GS := fun E ρ h => E.ct ρ h
theorem s_break : S3 X (.Break pos) gBreak := PSimp ps_break fun D σ H ⟨ρ, w, E, e, gd, q, out⟩ => by
  subst e
  exact out.bk ρ w σ q gd (Ext.refl w)
theorem s_cont : S3 X (.Continue pos) gCont := PSimp ps_continue fun D σ H ⟨ρ, w, E, e, gd, q, out⟩ => by
  subst e
  exact out.ct ρ w σ q gd (Ext.refl w)
@[simp] def gDrop (g : GE) : GS := fun E ρ h => g ρ h fun _ h1 => E.nx ρ h1
theorem s_expr (he : E3 X e ge) (hs : swapsWith e none pos.line X.env = pure false := by rfl) : S3 X (.Expr e pos) (gDrop ge) := PSimp (ps_expr he hs) fun D σ H ⟨ρ, w, E, e, gd, q, out⟩ => by
  subst e
  exact ⟨ρ, w, _, rfl, gd, q, fun d w1 v q1 r1 e1 p1 => out.nx ρ w1 σ q1 (gd.ext r1 e1) e1⟩
@[simp] def gRet (g : GE) : GS := fun E ρ h => g ρ h E.rt
theorem s_ret (he : E3 X e ge) : S3 X (.Return (some e) pos) (gRet ge) := PSimp (ps_ret he) fun D σ H ⟨ρ, w, E, e, gd, q, out⟩ => by
  subst e
  exact ⟨ρ, w, _, rfl, gd, q, out.rt⟩
@[simp] def gRetN : GS := fun E _ h => E.rt .non h
theorem s_retN : S3 X (.Return none pos) gRetN := PSimp ps_retN fun D σ H ⟨ρ, w, E, e, gd, q, out⟩ => by
  subst e
  exact out.rt.go gd.rel (Ext.refl w) .non q
@[simp] def gIfS (c : GT) (g1 g2 : GS) : GS := fun E ρ h => c ρ h fun b h1 => if b = true then g1 E ρ h1 else g2 E ρ h1
theorem s_if {c : Expr} {a b : List Stmt} {gc : GT} (hc : T3 X c gc) (ha : B3 X a g1) (hb : B3 X b g2) : S3 X (.If c a b pos) (gIfS gc g1 g2) := PSimp (ps_if hc ha hb) fun D σ H ⟨ρ, w, E, e, gd, q, out⟩ => by
  subst e
  refine ⟨ρ, w, _, rfl, gd, q, fun k w1 q1 r1 e1 => ?_⟩
  cases k with
  | true => exact ⟨ρ, w1, E, rfl, gd.ext r1 e1, q1, out.ext e1⟩
  | false => exact ⟨ρ, w1, E, rfl, gd.ext r1 e1, q1, out.ext e1⟩
/-- name = e -/
@[simp] def gSet (i : Nat) (g : GE) : GS := fun E ρ h => g ρ h fun d h1 => E.nx (ρ.set i (some d)) h1
theorem lo_set {K : PySem.W.Frag} {i : Nat} {t : TE} (it : ∀ σ H Q, lo K ge σ H Q → t σ H Q) {D : Ends} {σ : St} {H : Hp} (h : loS K (gSet i ge) D σ H) : tAsg t (gName i) D σ H := by
  obtain ⟨ρ, w, E, e, gd, q, out⟩ := h
  subst e
  exact it _ _ _ ⟨ρ, w, _, rfl, gd, q, fun d w1 v q1 r1 e1 p1 => out.nx _ w1 _ q1 ((gd.ext r1 e1).set p1 i) e1⟩
theorem s_set (i : Nat) {x : Str} {pos' : Pos} (he : E3 X e ge) (hN : X.N.Nodup) (hi : X.N[i]? = some x := by rfl) (hx : Loc X.env.scope x := by first | exact Or.inl rfl | exact Or.inr rfl) (hs : swapsWith e (some (.Name x pos')) pos.line X.env = pure false := by rfl)
    (hf : X.fn x = true ∨ X.env.scope.names.lookup x = some .local := by first | exact .inl rfl | exact .inr rfl | assumption) : S3 X (.Assign [.Name x pos'] e pos) (gSet i ge) := PSimp (ps_set hN hi hx he hs hf) fun _ _ _ h => lo_set (fun _ _ _ z => z) h
/-- name op= e -/
@[simp] def gAug (i : Nat) (r : D2) (g : GE) : GS := fun E ρ h => ∃ x, slot ρ i = some x ∧ g ρ h fun y h1 => r x y h1 fun z h2 => E.nx (ρ.set i (some z)) h2
theorem s_aug (i : Nat) {x : Str} {op : Operator} {r : D2} {pos' : Pos} (he : E3 X e ge) (ho : OpR X (inplaceOp op) (lo2 X.K r)) (hN : X.N.Nodup) (hi : X.N[i]? = some x := by rfl) (hx : Loc X.env.scope x := by first | exact Or.inl rfl | exact Or.inr rfl)
    (hf : X.fn x = true ∨ X.env.scope.names.lookup x = some .local := by first | exact .inl rfl | exact .inr rfl | assumption) : S3 X (.AugAssign (.Name x pos') op e pos) (gAug i r ge) :=
  PSimp (ps_aug hN hi hx he (fun pins s σ H x y v u Q I r1 r2 q => ho pins s σ H x y v u Q I r1 r2 q) hf) fun D σ H ⟨ρ, w, E, e, gd, ⟨x, hs, q⟩, out⟩ => by
  subst e
  obtain ⟨v, h1, h2⟩ := gd.at_ i x (slot_get hs)
  exact ⟨v, h1, ρ, w, _, rfl, gd, q, fun d w1 v1 q1 r1 e1 p1 => ⟨x, d, w1, _, rfl, r1, h2.ext e1, p1, q1, fun z w2 v2 q2 r2 e2 p2 => out.nx _ w2 _ q2 (((gd.ext r1 e1).ext r2 e2).set p2 i) (e1.trans e2)⟩⟩

/-! ### targets -/
abbrev GG := Dv → Sl → Mh → (Sl → Mh → Prop) → Prop
abbrev GGs := List Dv → Sl → Mh → (Sl → Mh → Prop) → Prop
def OutG (K : PySem.W.Frag) (w : Wd) (vs : List Nat) (σ0 : St) (Q3 : Sl → Mh → Prop) (Q : St → Hp → Prop) : Prop := ∀ ρ w' σ, Q3 ρ w'.h → Good K ρ w' σ → Ext w w' → wipe σ vs = wipe σ0 vs → Q σ w'.H
def loG (K : PySem.W.Frag) (vs : List Nat) (g : GG) : TG := fun v σ H Q => ∃ d ρ w Q3, w.H = H ∧ Good K ρ w σ ∧ Rp K w d v ∧ g d ρ w.h Q3 ∧ OutG K w vs σ Q3 Q
def loGs (K : PySem.W.Frag) (vs : List Nat) (g : GGs) : TGs := fun xs σ H Q => ∃ ds ρ w Q3, w.H = H ∧ Good K ρ w σ ∧ RpAll K w ds xs ∧ g ds ρ w.h Q3 ∧ OutG K w vs σ Q3 Q
def G3t (X : Cx) (tg : Expr) (vs : List Nat) (g : GG) : Prop := PG X tg (loG X.K vs g)
def G3ts (X : Cx) (tgs : List Expr) (vs : List Nat) (g : GGs) : Prop := PGs X tgs (loGs X.K vs g)
theorem PGimp {tg : Expr} {t t' : TG} (h : PG X tg t) (i : ∀ v σ H Q, t' v σ H Q → t v σ H Q) : PG X tg t' := ⟨fun pins s σ H v u Q I r q => h.run pins s σ H v u Q I r (i _ _ _ _ q)⟩
theorem PGsimp {tg : List Expr} {t t' : TGs} (h : PGs X tg t) (i : ∀ v σ H Q, t' v σ H Q → t v σ H Q) : PGs X tg t' := ⟨fun pins s σ H v u Q I r q => h.run pins s σ H v u Q I r (i _ _ _ _ q)⟩
theorem wipe_comm (σ : St) (i : Nat) (a : Option V) : ∀ vs : List Nat, i ∉ vs → wipe (σ.set i a) vs = (wipe σ vs).set i a
  | [], _ => rfl
  | v :: vs, h => by
    have h1 : i ≠ v := fun e => h (by rw [e]; exact List.mem_cons_self)
    have h2 : i ∉ vs := fun e => h (List.mem_cons_of_mem _ e)
    show (wipe (σ.set i a) vs).set v none = ((wipe σ vs).set v none).set i a
    rw [wipe_comm σ i a vs h2, List.set_comm _ _ h1]
theorem wipe_set (σ : St) (i : Nat) (a : Option V) : ∀ vs : List Nat, i ∈ vs → wipe (σ.set i a) vs = wipe σ vs
  | [], h => by cases h
  | v :: vs, h => by
    show (wipe (σ.set i a) vs).set v none = (wipe σ vs).set v none
    by_cases hm : i ∈ vs
    · rw [wipe_set σ i a vs hm]
    · have e : i = v := by
        rcases List.mem_cons.mp h with e | e
        · exact e
        · exact absurd e hm
      rw [wipe_comm σ i a vs hm, e, List.set_set]
@[simp] def ggName (i : Nat) : GG := fun d ρ h Q => Q (ρ.set i (some d)) h
theorem g_name (vs : List Nat) (i : Nat) {x : Str} (hN : X.N.Nodup) (hm : i ∈ vs := by decide) (hi : X.N[i]? = some x := by rfl) (hx : Loc X.env.scope x := by first | exact Or.inl rfl | exact Or.inr rfl) (hf : X.fn x = true ∨ X.env.scope.names.lookup x = some .local := by first | exact .inl rfl | exact .inr rfl | assumption) :
    G3t X (.Name x pos) vs (ggName i) := PGimp (pg_name hN hi hx hf) fun v σ H Q ⟨d, ρ, w, Q3, e, gd, p, q, out⟩ => by
  subst e
  exact out _ w _ q (gd.set p i) (Ext.refl w) (wipe_set σ i (some v) vs hm)
@[simp] def ggNil : GGs := fun ds ρ h Q => ds = [] ∧ Q ρ h
def ggCons (g : GG) (r : GGs) : GGs := fun ds ρ h Q => ∃ d rest, ds = d :: rest ∧ g d ρ h fun ρ1 h1 => r rest ρ1 h1 Q
theorem gs_nil (vs : List Nat) : G3ts X [] vs ggNil := PGsimp pgs_nil fun v σ H Q ⟨ds, ρ, w, Q3, e, gd, p, ⟨e2, q⟩, out⟩ => by
  subst e e2
  cases p
  exact ⟨rfl, out ρ w σ q gd (Ext.refl w) rfl⟩
theorem gs_cons {vs : List Nat} {gg : GG} {ggs : GGs} (h1 : G3t X e vs gg) (h2 : G3ts X es vs ggs)
    (hs : (assignEach (e :: es) X.env).map (·.2) = assign e X.env :: (assignEach es X.env).map (·.2) := by rfl) : G3ts X (e :: es) vs (ggCons gg ggs) := PGsimp (pgs_cons h1 h2 hs) fun v σ H Q ⟨ds, ρ, w, Q3, e, gd, p, ⟨d, r, e2, q⟩, out⟩ => by
  subst e e2
  cases p with
  | cons pa pb => exact ⟨_, _, rfl, d, ρ, w, _, rfl, gd, pa, q, fun ρ1 w1 σ1 q1 gd1 e1 z1 => ⟨r, ρ1, w1, Q3, rfl, gd1, pb.ext e1, q1, fun ρ2 w2 σ2 q2 gd2 e2 z2 => out ρ2 w2 σ2 q2 gd2 (e1.trans e2) (z2.trans z1)⟩⟩
def gTupA (K : PySem.W.Frag) (n : Nat) (t : TGs) : TG := fun v σ H Q => L2.gTup K n t v σ H Q ∨ L2.gUnl K n t v σ H Q
theorem pg_tupA {t : TGs} {k n : Nat} (hc : X.calm = true) (h : PGs X es t) (hn : (assignEach es X.env).length = n) (hst : (assignEach es X.env).findIdx? (·.1) = none) : PG X (.Tuple es k pos) (gTupA X.K n t) :=
  ⟨fun pins s σ H v u Q I r hw => hw.elim (fun z => (pg_tup hc h hn hst).run pins s σ H v u Q I r z) fun z => (pg_unl hc h hn hst).run pins s σ H v u Q I r z⟩
def ggTup (n : Nat) (r : GGs) : GG := fun d ρ h Q => ∃ ds, seqOf h d = some ds ∧ ds.length = n ∧ r ds ρ h Q
theorem g_tup {vs : List Nat} {k : Nat} {ggs : GGs} {n : Nat} (hc : X.calm = true) (h : G3ts X es vs ggs) (hn : (assignEach es X.env).length = n := by rfl) (hst : (assignEach es X.env).findIdx? (·.1) = none := by rfl) :
    G3t X (.Tuple es k pos) vs (ggTup n ggs) := PGimp (pg_tupA hc h hn hst) fun v σ H Q ⟨d, ρ, w, Q3, e, gd, p, ⟨ds, e2, hl, q⟩, out⟩ => by
  subst e
  obtain ⟨a, xs, rfl, sq, ra⟩ := seqOf_at gd.rel p e2
  rcases sq with sq | sq
  · exact .inr ⟨_, _, rfl, sq, by rw [← ra.length]; exact hl, ds, ρ, w, Q3, rfl, gd, ra, q, out⟩
  · exact .inl ⟨_, _, rfl, sq, by rw [← ra.length]; exact hl, ds, ρ, w, Q3, rfl, gd, ra, q, out⟩
/-- target = e -/
@[simp] def gAsg (g : GE) (gg : GG) : GS := fun E ρ h => g ρ h fun d h1 => gg d ρ h1 E.nx
theorem s_asg {tg : Expr} {vs : List Nat} {gg : GG} (he : E3 X e ge) (hg : G3t X tg vs gg) (hs : swapsWithSole [tg] e pos.line X.env = pure false := by rfl) (hw : swappedStores [tg] e X.env = pure none := by rfl)
    (h1 : (assignEach [tg] X.env).map (·.2) = [assign tg X.env] := by rfl) : S3 X (.Assign [tg] e pos) (gAsg ge gg) := PSimp (ps_asg he hg hs hw h1) fun D σ H ⟨ρ, w, E, e, gd, q, out⟩ => by
  subst e
  exact ⟨ρ, w, _, rfl, gd, q, fun d w1 v q1 r1 e1 p1 => ⟨d, ρ, w1, _, rfl, gd.ext r1 e1, p1, q1, fun ρ2 w2 σ2 q2 gd2 e2 _ => out.nx ρ2 w2 σ2 q2 gd2 (e1.trans e2)⟩⟩
/-- xs[i] = e of a list -/
@[simp] def ggSub (go gi : GE) : GG := fun v ρ h Q => go ρ h fun o h1 => gi ρ h1 fun i h2 => ∃ a xs k j, o = .ref a ∧ i = .int k ∧ h2 a = some (.lst xs) ∧ ixN xs.length k = some j ∧ Q ρ (mput h2 a (.lst (xs.set j v)))
theorem g_sub {i : Expr} {gi : GE} (vs : List Nat) (ho : E3 X o go) (hi : E3 X i gi)
    (ha : ∀ v, assign (.Subscript o i pos) X.env v = (do
      let ov ← holding [v] (eval o X.env)
      let iv ← holding [v, ov] (eval i X.env)
      standAt pos
      holding [v, ov, iv] (setItem ov iv v)
      release [v, ov, iv] []) := by intro _; rfl) : G3t X (.Subscript o i pos) vs (ggSub go gi) := PGimp (pg_sub ho hi set_list ha) fun v σ H Q ⟨d, ρ, w, Q3, e, gd, p, q, out⟩ => by
  subst e
  refine ⟨ρ, w, _, rfl, gd, q, fun d1 w1 v1 q1 r1 e1 p1 => ⟨ρ, w1, _, rfl, gd.ext r1 e1, q1, fun d2 w2 v2 ⟨a, xs, k, j, ea, ei, hh, hj, q2⟩ r2 e2 p2 => ?_⟩⟩
  subst ea ei
  have p1 := p1.ext e2
  cases p1
  cases p2
  obtain ⟨ws, hG, hH, ra⟩ := r2.mlst hh
  refine ⟨a, ws, k, j, rfl, rfl, hH, by rw [← ra.length]; exact hj, ?_⟩
  obtain ⟨r3, e3⟩ := put_lst (p := a) r2 (RpAll.set ((p.ext e1).ext e2) j ra) (.inr ⟨_, hh⟩)
  exact out ρ _ σ q2 (((gd.ext r1 e1).ext r2 e2).ext r3 e3) ((e1.trans e2).trans e3) rfl

/-! ### what is walked -/
structure ItOk (K : PySem.W.Frag) (J : It) (ds : List Dv) (w : Wd) : Prop where
  go : ∀ i w', Ext w w' → Rel K w' → i < ds.length → J.go i w'.H
  yld : ∀ i w' x H'', Ext w w' → Rel K w' → J.yld i w'.H x H'' → ∀ d, ds[i]? = some d → ∃ w'', w''.H = H'' ∧ w''.h = w'.h ∧ Rel K w'' ∧ Ext w' w'' ∧ Rp K w'' d x
  stop : ∀ w', Ext w w' → Rel K w' → J.stop ds.length w'.H
abbrev GI := Sl → Mh → (List Dv → Mh → Prop) → Prop
def OutI (K : PySem.W.Frag) (w : Wd) (R3 : List Dv → Mh → Prop) (R : It → Hp → Prop) : Prop := ∀ ds w' J, R3 ds w'.h → Rel K w' → Ext w w' → ItOk K J ds w' → R J w'.H
def loI (K : PySem.W.Frag) (g : GI) : TI := fun σ H R => ∃ ρ w R3, w.H = H ∧ Good K ρ w σ ∧ g ρ w.h R3 ∧ OutI K w R3 R
def I3 (X : Cx) (tg it : Expr) (g : GI) : Prop := PI X tg it (loI X.K g)
theorem PIimp {tg e : Expr} {t t' : TI} (h : PI X tg e t) (i : ∀ σ H Q, t' σ H Q → t σ H Q) : PI X tg e t' := ⟨fun pins s σ H R I q => h.run pins s σ H R I (i _ _ _ q)⟩
theorem itOk_tup {K : PySem.W.Frag} {w : Wd} {p : Addr} {xs : List V} {ds : List Dv} (t : TupAt K w p xs) (ra : RpAll K w ds xs) (uq : ∀ w' ys, Rel K w' → TupAt K w' p xs → SqT K w'.H p ys → ys = xs) : True := trivial
/-- a list, a tuple, a text -/
def iSeq (K : PySem.W.Frag) (te : TE) : TI := fun σ H R => te σ H fun x H1 => (∃ a, x = .ref a ∧ (∃ xs, SqL K H1 a xs) ∧ R (Itl K a) H1) ∨ (∃ a, x = .ref a ∧ (∃ xs, SqT K H1 a xs) ∧ R (Itt K a) H1) ∨ ∃ z, x = .str z ∧ R (Its z) H1
theorem pi_seq {tg l : Expr} {tl : TE} (hl : PE X l tl) : PI X tg l (iSeq X.K tl) := by
  refine ⟨fun pins s σ H R I h => thn (hl.run pins s σ H _ I h) fun v s1 ⟨x, H1, I1, r1, q1⟩ => ?_⟩
  rcases q1 with ⟨a, e, ⟨xs, hq⟩, q⟩ | ⟨a, e, ⟨xs, hq⟩, q⟩ | ⟨z, e, q⟩
  · subst e
    cases r1
    obtain ⟨its, rv, pl, _⟩ := I1.list hq
    exact wpAny_pyIter_list pl.isList (pi_one (tk := s1.toks) I1 _ (turn_list a _) ⟨_, Heap.get?_push_size _ rfl, rfl, rfl⟩ q)
  · subst e
    cases r1
    obtain ⟨its, rv, pl, _⟩ := I1.tuple hq
    exact wpAny_pyIter_tuple (show s1.heap.IsTuple a its.toArray from pl) (pi_one (tk := s1.toks) I1 _ (turn_tuple a _) ⟨_, Heap.get?_push_size _ rfl, rfl, rfl⟩ q)
  · subst e
    obtain ⟨t, rfl⟩ := r1
    cases ha : z.cps.all (· < 128) with
    | false => exact wpAny_pyIter_wide ha (pi_one (tk := s1.toks) I1 _ (turn_str _ z t "str_iterator" (.inr rfl)) ⟨_, Heap.get?_push_size _ rfl, rfl, rfl⟩ q)
    | true => exact wpAny_pyIter_ascii ha (pi_one (tk := s1.toks) I1 _ (turn_str _ z t "str_ascii_iterator" (.inl rfl)) ⟨_, Heap.get?_push_size _ rfl, rfl, rfl⟩ q)
/-- the things that a walk of d meets -/
def walkOf : Dv → Option (List Dv)
  | .lst ds => some ds
  | .tup ds => some ds
  | .str z => some (z.cps.toList.map fun c => .str ⟨#[c]⟩)
  | _ => none
@[simp] def gIt (g : GE) : GI := fun ρ h R => g ρ h fun d h1 => ∃ ds, walkOf d = some ds ∧ R ds h1
theorem i_seq {tg l : Expr} {gl : GE} (hl : E3 X l gl) : I3 X tg l (gIt gl) := PIimp (pi_seq hl) fun σ H R ⟨ρ, w, R3, e, gd, q, out⟩ => by
  subst e
  refine ⟨ρ, w, _, rfl, gd, q, fun d w1 v ⟨ds, hw, q1⟩ r1 e1 p1 => ?_⟩
  cases p1 with
  | lst t ra =>
    cases hw
    refine .inl ⟨_, rfl, ⟨_, r1.sqL t⟩, out ds w1 _ q1 r1 e1 ⟨fun i w' e' r' hi => ?_, fun i w' x H'' e' r' ⟨eH, hx⟩ d hd => ?_, fun w' e' r' => ?_⟩⟩
    · exact ⟨_, _, r'.sqL (t.ext e'.fz), List.getElem?_eq_getElem (by rw [← ra.length]; exact hi)⟩
    · obtain ⟨y, hy, ry⟩ := ra.get' hd
      have e := hx _ (r'.sqL (t.ext e'.fz))
      rw [hy] at e
      cases e
      exact ⟨w', eH.symm, rfl, r', Ext.refl w', ry.ext e'⟩
    · exact ⟨_, r'.sqL (t.ext e'.fz), by rw [ra.length]; exact Nat.le_refl _⟩
  | tup t ra =>
    cases hw
    refine .inr (.inl ⟨_, rfl, ⟨_, r1.sqT t⟩, out ds w1 _ q1 r1 e1 ⟨fun i w' e' r' hi => ?_, fun i w' x H'' e' r' ⟨eH, hx⟩ d hd => ?_, fun w' e' r' => ?_⟩⟩)
    · exact ⟨_, _, r'.sqT (t.ext e'.fz), List.getElem?_eq_getElem (by rw [← ra.length]; exact hi)⟩
    · obtain ⟨y, hy, ry⟩ := ra.get' hd
      have e := hx _ (r'.sqT (t.ext e'.fz))
      rw [hy] at e
      cases e
      exact ⟨w', eH.symm, rfl, r', Ext.refl w', ry.ext e'⟩
    · exact ⟨_, r'.sqT (t.ext e'.fz), by rw [ra.length]; exact Nat.le_refl _⟩
  | str z =>
    cases hw
    refine .inr (.inr ⟨z, rfl, out _ w1 _ q1 r1 e1 ⟨fun i w' e' r' hi => ?_, fun i w' x H'' e' r' ⟨eH, c, hc, hx⟩ d hd => ?_, fun w' e' r' => ?_⟩⟩)
    · rw [List.length_map, Array.length_toList] at hi
      exact hi
    · rw [List.getElem?_map, Array.getElem?_toList, hc] at hd
      cases hd
      subst hx
      exact ⟨w', eH.symm, rfl, r', Ext.refl w', .str _⟩
    · rw [List.length_map, Array.length_toList]
      exact Nat.le_refl _
  | _ => cases hw
/-- range(n), range(a, b) -/
def rng (lo : Int) (n : Nat) : List Dv := (List.range n).map fun k => .int (lo + (k : Nat))
theorem itOk_rng {K : PySem.W.Frag} {w : Wd} (lo : Int) (n : Nat) : ItOk K (Itr lo n) (rng lo n) w := by
  refine ⟨fun i w' e' r' hi => ?_, fun i w' x H'' e' r' ⟨eH, hx⟩ d hd => ?_, fun w' e' r' => ?_⟩
  · unfold rng at hi
    rw [List.length_map, List.length_range] at hi
    exact hi
  · unfold rng at hd
    rw [List.getElem?_map] at hd
    have hi : i < n := by
      rcases Nat.lt_or_ge i n with h | h
      · exact h
      · rw [List.getElem?_eq_none (by rw [List.length_range]; exact h)] at hd
        cases hd
    rw [List.getElem?_range hi] at hd
    cases hd
    subst hx
    exact ⟨w', eH.symm, rfl, r', Ext.refl w', .int _⟩
  · unfold rng
    rw [List.length_map, List.length_range]
    exact Nat.le_refl _
@[simp] def gRng1 (gs : GA) : GI := fun ρ h R => gs ρ h fun ds h1 => ∃ j, ds = [.int j] ∧ -(2 ^ 62) ≤ j ∧ j < 2 ^ 62 ∧ R (rng 0 j.toNat) h1
theorem i_rng1 {tg a : Expr} {p : Pos} (hg : Gl X "range") (hm : X.mg "range" = none) (ha : A3 X [a] gs) (hs : starEach [a] X.env = [(false, eval a X.env)] := by rfl) : I3 X tg (.Call (.Name "range" p) [a] [] pos) (gRng1 gs) := PIimp (pi_range1 hg hm ha hs) fun σ H R ⟨ρ, w, R3, e, gd, q, out⟩ => by
  subst e
  refine ⟨ρ, w, _, rfl, gd, q, fun ds w1 vs ⟨j, e2, h1, h2, q1⟩ r1 e1 p1 => ?_⟩
  subst e2
  obtain ⟨x, e3, px⟩ := p1.one
  subst e3
  cases px
  exact ⟨j, rfl, h1, h2, out _ w1 _ q1 r1 e1 (itOk_rng 0 j.toNat)⟩
@[simp] def gRng2 (gs : GA) : GI := fun ρ h R => gs ρ h fun ds h1 => ∃ i j, ds = [.int i, .int j] ∧ (-(2 ^ 62) ≤ i ∧ i < 2 ^ 62 ∧ -(2 ^ 62) ≤ j ∧ j < 2 ^ 62) ∧ R (rng i (j - i).toNat) h1
theorem i_rng2 {tg a b : Expr} {p : Pos} (hg : Gl X "range") (hm : X.mg "range" = none) (ha : A3 X [a, b] gs) (hs : starEach [a, b] X.env = [(false, eval a X.env), (false, eval b X.env)] := by rfl) (hs2 : starEach [b] X.env = [(false, eval b X.env)] := by rfl) :
    I3 X tg (.Call (.Name "range" p) [a, b] [] pos) (gRng2 gs) := PIimp (pi_range2 hg hm ha hs hs2) fun σ H R ⟨ρ, w, R3, e, gd, q, out⟩ => by
  subst e
  refine ⟨ρ, w, _, rfl, gd, q, fun ds w1 vs ⟨i, j, e2, h1, q1⟩ r1 e1 p1 => ?_⟩
  subst e2
  obtain ⟨x, y, e3, px, pp⟩ := p1.two
  subst e3
  cases px
  cases pp
  exact ⟨i, j, rfl, h1, out _ w1 _ q1 r1 e1 (itOk_rng i (j - i).toNat)⟩

/-! ### for, while -/
@[simp] def wFor (gg : GG) (b : GS) : List Dv → En → Sl → Mh → Prop
  | [], E, ρ, h => E.nx ρ h
  | d :: ds, E, ρ, h => gg d ρ h fun ρ1 h1 => b { E with nx := wFor gg b ds E, ct := wFor gg b ds E, bk := E.nx } ρ1 h1
@[simp] def gFor (gi : GI) (gg : GG) (b : GS) : GS := fun E ρ h => gi ρ h fun ds h1 => wFor gg b ds E ρ h1
theorem s_for {tg iter : Expr} {body : List Stmt} {gi : GI} {vs : List Nat} {gg : GG} {gb : GS} (hp : PassesOwn (model X.prog X.w) X.A X.env X.xe) (hc : X.calm = true) (hi : I3 X tg iter gi) (hg : G3t X tg vs gg) (hb : B3 X body gb)
    (hs : ∀ x, foldedSetIterable iter X.env x = pure x := by intro _; rfl) : S3 X (.For tg iter body [] pos) (gFor gi gg gb) := PSimp (ps_for hp hc hi hg hb hs) fun D σ H ⟨ρ, w, E, e, gd, q, out⟩ => by
  subst e
  refine ⟨ρ, w, _, rfl, gd, q, fun ds w1 J q1 r1 e1 ok => ?_⟩
  refine ⟨fun i m σ' H' => ∃ ρ' w', w'.H = H' ∧ m = ds.length - i ∧ i ≤ ds.length ∧ Good X.K ρ' w' σ' ∧ Ext w1 w' ∧ wFor gg gb (ds.drop i) E ρ' w'.h, ⟨ds.length, ρ, w1, rfl, rfl, Nat.zero_le _, gd.ext r1 e1, Ext.refl w1, q1⟩, fun i m σ' H' hW => ?_⟩
  obtain ⟨ρ', w', eH, hm, hl, gd', e', q'⟩ := hW
  subst eH hm
  by_cases hi : i < ds.length
  · have hd : ds.drop i = ds[i] :: ds.drop (i + 1) := List.drop_eq_getElem_cons hi
    rw [hd] at q'
    refine .inr ⟨ok.go i w' e' gd'.rel hi, fun σ2 H2 => ∃ ρ2 w2, w2.H = H2 ∧ Good X.K ρ2 w2 σ2 ∧ Ext w1 w2 ∧ wFor gg gb (ds.drop (i + 1)) E ρ2 w2.h, fun σ2 H2 ⟨ρ2, w2, eH, g2, e2, q2⟩ => ⟨ds.length - (i + 1), by omega, ρ2, w2, eH, rfl, hi, g2, e2, q2⟩, fun x H'' hy => ?_⟩
    obtain ⟨w2, eH, hh, r2, e2, p2⟩ := ok.yld i w' x H'' e' gd'.rel hy ds[i] (List.getElem?_eq_getElem hi)
    subst eH
    refine ⟨ds[i], ρ', w2, fun ρ1 h1 => gb { E with nx := wFor gg gb (ds.drop (i + 1)) E, ct := wFor gg gb (ds.drop (i + 1)) E, bk := E.nx } ρ1 h1, rfl, gd'.ext r2 e2, p2, by rw [hh]; exact q', fun ρ3 w3 σ3 q3 g3 e3 _ => ⟨ρ3, w3, { E with nx := wFor gg gb (ds.drop (i + 1)) E, ct := wFor gg gb (ds.drop (i + 1)) E, bk := E.nx }, rfl, g3, q3, ⟨fun ρ4 w4 σ4 q4 g4 e4 => ⟨ρ4, w4, rfl, g4, ((e'.trans e2).trans e3).trans e4, q4⟩, out.rt.ext (((e1.trans e').trans e2).trans e3), fun ρ4 w4 σ4 q4 g4 e4 => out.nx ρ4 w4 σ4 q4 g4 ((((e1.trans e').trans e2).trans e3).trans e4), fun ρ4 w4 σ4 q4 g4 e4 => ⟨ρ4, w4, rfl, g4, ((e'.trans e2).trans e3).trans e4, q4⟩⟩⟩⟩
  · have e : i = ds.length := by omega
    subst e
    rw [List.drop_length] at q'
    exact .inl ⟨ok.stop w' e' gd'.rel, out.nx ρ' w' σ' q' gd' (e1.trans e')⟩
def wWh (c : GT) (b : GS) : Nat → En → Sl → Mh → Prop
  | 0, _, _, _ => False
  | n + 1, E, ρ, h => c ρ h fun k h1 => if k = true then b { E with nx := wWh c b n E, ct := wWh c b n E, bk := E.nx } ρ h1 else E.nx ρ h1
@[simp] def gWhile (c : GT) (b : GS) : GS := fun E ρ h => ∃ n, wWh c b n E ρ h
theorem s_while {c : Expr} {body : List Stmt} {gc : GT} {gb : GS} (hp : PassesOwn (model X.prog X.w) X.A X.env X.xe) (hc : T3 X c gc) (hb : B3 X body gb) : S3 X (.While c body [] pos) (gWhile gc gb) := PSimp (ps_while hp hc hb) fun D σ H ⟨ρ, w, E, e, gd, ⟨n, q⟩, out⟩ => by
  subst e
  refine ⟨fun m σ' H' => ∃ ρ' w', w'.H = H' ∧ Good X.K ρ' w' σ' ∧ Ext w w' ∧ wWh gc gb m E ρ' w'.h, ⟨n, ρ, w, rfl, gd, Ext.refl w, q⟩, fun m σ' H' ⟨ρ', w', eH, g', e', q'⟩ => ?_⟩
  subst eH
  cases m with
  | zero => exact q'.elim
  | succ m =>
    refine ⟨ρ', w', _, rfl, g', q', fun k w1 q1 r1 e1 => ?_⟩
    cases k with
    | true =>
      rw [if_pos rfl] at q1 ⊢
      exact ⟨fun σ2 H2 => ∃ ρ2 w2, w2.H = H2 ∧ Good X.K ρ2 w2 σ2 ∧ Ext w w2 ∧ wWh gc gb m E ρ2 w2.h, fun σ2 H2 h2 => ⟨m, Nat.lt_succ_self m, h2⟩, ρ', w1, _, rfl, g'.ext r1 e1, q1,
        ⟨fun ρ2 w2 σ2 q2 g2 e2 => ⟨ρ2, w2, rfl, g2, (e'.trans e1).trans e2, q2⟩, out.rt.ext (e'.trans e1), fun ρ2 w2 σ2 q2 g2 e2 => out.nx ρ2 w2 σ2 q2 g2 ((e'.trans e1).trans e2), fun ρ2 w2 σ2 q2 g2 e2 => ⟨ρ2, w2, rfl, g2, (e'.trans e1).trans e2, q2⟩⟩⟩
    | false =>
      rw [if_neg Bool.false_ne_true] at q1 ⊢
      exact out.nx ρ' w1 σ' q1 (g'.ext r1 e1) (e'.trans e1)
end
end G3

namespace G3
open PySem L2

/-! ### list comprehensions -/
@[simp] def wipD (ρ : Sl) : List Nat → Sl
  | [] => ρ
  | v :: vs => (wipD ρ vs).set v none
theorem Good.unset {K : PySem.W.Frag} {ρ : Sl} {w : Wd} {σ : St} (g : Good K ρ w σ) (i : Nat) : Good K (ρ.set i none) w (σ.set i none) := by
  refine ⟨g.rel, by rw [List.length_set, List.length_set]; exact g.len, fun j e h => ?_⟩
  by_cases n : i = j
  · subst n
    have hl : i < ρ.length := by
      have := (List.getElem?_eq_some_iff.mp h).1
      rwa [List.length_set] at this
    rw [List.getElem?_set_self hl] at h
    cases h
  · rw [List.getElem?_set_ne n] at h
    obtain ⟨y, a, b⟩ := g.at_ j e h
    exact ⟨y, by rw [List.getElem?_set_ne n]; exact a, b⟩
theorem Good.wipe {K : PySem.W.Frag} {ρ : Sl} {w : Wd} {σ : St} (g : Good K ρ w σ) : ∀ vs : List Nat, Good K (wipD ρ vs) w (wipe σ vs)
  | [] => g
  | v :: vs => (Good.wipe g vs).unset v
section
variable {X : Cx}
def T3s (X : Cx) (ifs : List Expr) (g : GT) : Prop := PTs X ifs (loT X.K g)
@[simp] def gYes : GT := fun _ h Q => Q true h
theorem ts_nil : T3s X [] gYes := ⟨fun pins s σ H Q I ⟨ρ, w, Q3, e, gd, q, out⟩ => by
  subst e
  exact pts_nil.run pins s σ w.H Q I (out true w q gd.rel (Ext.refl w))⟩
theorem ts_one {c : Expr} {g : GT} (h : T3 X c g) : T3s X [c] g := pts_one h
@[simp] def wLc (vs : List Nat) (gg : GG) (gt : GT) (ge : GE) (ρ : Sl) : List Dv → List Dv → Mh → (List Dv → Mh → Prop) → Prop
  | [], acc, h, Q => Q acc h
  | d :: ds, acc, h, Q => gg d (wipD ρ vs) h fun ρ2 h2 => gt ρ2 h2 fun b h3 => if b = true then ge ρ2 h3 fun y h4 => acc.length < sizeLine ∧ wLc vs gg gt ge ρ ds (acc ++ [y]) h4 Q else wLc vs gg gt ge ρ ds acc h3 Q
@[simp] def gLc (vs : List Nat) (gi : GI) (gg : GG) (gt : GT) (ge : GE) : GE := fun ρ h Q => gi ρ h fun ds h1 => wLc vs gg gt ge ρ ds [] h1 fun acc h2 => Q (.lst acc) h2
@[simp] def gMLc (vs : List Nat) (gi : GI) (gg : GG) (gt : GT) (ge : GE) : GE := fun ρ h Q => gi ρ h fun ds h1 => wLc vs gg gt ge ρ ds [] h1 fun acc h2 => ∀ p, h2 p = none → Q (.ref p) (mput h2 p (.lst acc))
theorem wipe_wipe (σ : St) : ∀ vs us : List Nat, (∀ i ∈ us, i ∈ vs) → wipe (wipe σ us) vs = wipe σ vs
  | vs, [], _ => rfl
  | vs, u :: us, h => by
    show wipe ((wipe σ us).set u none) vs = wipe σ vs
    rw [wipe_set _ u none vs (h u List.mem_cons_self)]
    exact wipe_wipe σ vs us fun i hi => h i (List.mem_cons_of_mem _ hi)
theorem RpO.fz {K : PySem.W.Frag} {w v : Wd} (e : Fzs w v) {a : Addr} {m : Mo} (g : ∀ u, w.G a = some u → v.G a = some u) (r : RpO K w a m) : RpO K v a m := by
  cases m with
  | lst ds =>
    obtain ⟨xs, q1, q2⟩ := r
    exact ⟨xs, g _ q1, RpAll.fz e q2⟩
  | ins C fs =>
    obtain ⟨dx, vs, q1, q2⟩ := r
    exact ⟨dx, vs, g _ q1, Paired.mapP q2 fun _ _ z => ⟨z.1, Rp.fz e z.2⟩⟩
theorem Rel.hG {K : PySem.W.Frag} {w : Wd} (r : Rel K w) {p : Addr} (g : w.G p = none) : w.h p = none := by
  cases q : w.h p with
  | none => rfl
  | some m =>
    have z := r.obj p m q
    cases m with
    | lst ds => obtain ⟨_, z, _⟩ := z; rw [g] at z; cases z
    | ins C fs => obtain ⟨_, _, z, _⟩ := z; rw [g] at z; cases z
/-- something that isn't told changes -/
theorem Rel.junkPut {K : PySem.W.Frag} {w : Wd} (r : Rel K w) {D : Addr} (g : w.G D = none) (u : HO) : Rel K ⟨w.h, w.G, upd w.H D u⟩ := by
  refine ⟨fun p x h => ?_, fun a m h => ?_⟩
  · have n : p ≠ D := fun z => by
      have h : w.G p = some x := h
      rw [z, g] at h; cases h
    rcases r.sub p x h with z | ⟨z1, o, z⟩
    · exact .inl (by show upd w.H D u p = _; rw [upd_ne n]; exact z)
    · exact .inr ⟨z1, o, by show upd w.H D u p = _; rw [upd_ne n]; exact z⟩
  · exact RpO.fz (w := w) (v := ⟨w.h, w.G, upd w.H D u⟩) (fun p x h1 h2 => ⟨h2, h1⟩) (fun _ z => z) (r.obj a m h)
/-- .. and is told from now on -/
theorem Rel.tell {K : PySem.W.Frag} {w : Wd} (r : Rel K w) {D : Addr} (g : w.G D = none) {u : HO} (e : w.H D = some u) : Rel K ⟨w.h, upd w.G D u, w.H⟩ ∧ Fzs w ⟨w.h, upd w.G D u, w.H⟩ := by
  have hD := r.hG g
  have fz : Fzs w ⟨w.h, upd w.G D u, w.H⟩ := fun p x h1 h2 => by
    have n : p ≠ D := fun z => by rw [z, g] at h2; cases h2
    exact ⟨by show upd w.G D u p = _; rw [upd_ne n]; exact h2, h1⟩
  refine ⟨⟨fun p x h => ?_, fun a m h => ?_⟩, fz⟩
  · have h : upd w.G D u p = some x := h
    by_cases n : p = D
    · subst n
      rw [upd_same] at h
      cases h
      exact .inl e
    · rw [upd_ne n] at h
      exact r.sub p x h
  · have n : a ≠ D := fun z => by
      have h : w.h a = some m := h
      rw [z, hD] at h; cases h
    exact RpO.fz fz (fun x z => by show upd w.G D u a = _; rw [upd_ne n]; exact z) (r.obj a m h)
theorem Rel.tellM {K : PySem.W.Frag} {w : Wd} (r : Rel K w) {D : Addr} (g : w.G D = none) {xs : List V} {ds : List Dv} (e : w.H D = some (.lst xs)) (ra : RpAll K w ds xs) : Rel K ⟨mput w.h D (.lst ds), upd w.G D (.lst xs), w.H⟩ := by
  have fz : Fzs w ⟨mput w.h D (.lst ds), upd w.G D (.lst xs), w.H⟩ := fun p x h1 h2 => by
    have n : p ≠ D := fun z => by rw [z, g] at h2; cases h2
    exact ⟨by show upd w.G D _ p = _; rw [upd_ne n]; exact h2, by show mput w.h D _ p = _; rw [mput_ne n]; exact h1⟩
  refine ⟨fun p x h => ?_, fun a m h => ?_⟩
  · have h : upd w.G D (.lst xs) p = some x := h
    by_cases n : p = D
    · subst n
      rw [upd_same] at h
      cases h
      exact .inl e
    · rw [upd_ne n] at h
      rcases r.sub p x h with z | ⟨z1, z⟩
      · exact .inl z
      · exact .inr ⟨by show mput w.h D _ p = _; rw [mput_ne n]; exact z1, z⟩
  · have h : mput w.h D (.lst ds) a = some m := h
    by_cases n : a = D
    · subst n
      rw [mput_same] at h
      cases h
      exact ⟨xs, upd_same, RpAll.fz fz ra⟩
    · rw [mput_ne n] at h
      exact RpO.fz fz (fun x z => by show upd w.G D _ a = _; rw [upd_ne n]; exact z) (r.obj a m h)
theorem lo_lc {K : PySem.W.Frag} {vs : List Nat} {gi : GI} {gg : GG} {gt : GT} {ge : GE} {σ : St} {H : Hp} {Q : VK} {F : List Dv → Mh → Kd → Prop} (hF : ∀ acc h Q3, F acc h Q3 → Q3 (.lst acc) h ∨ ∀ p, h p = none → Q3 (.ref p) (mput h p (.lst acc)))
    (h : lo K (fun ρ h Q => gi ρ h fun ds h1 => wLc vs gg gt ge ρ ds [] h1 fun acc h2 => F acc h2 Q) σ H Q) : tLc (loI K gi) (loG K vs gg) (loT K gt) (lo K ge) vs σ H Q := by
  obtain ⟨ρ, w, Q3, e, gd, q, out⟩ := h
  subst e
  refine ⟨ρ, w, _, rfl, gd, q, fun ds w1 J q1 r1 e1 ok D nD => ?_⟩
  have gD := (r1.hnone nD).1
  have ne : ∀ p u, w1.H p = some u → p ≠ D := fun p u h z => by rw [z, nD] at h; cases h
  let Inv' : Nat → Hp → Prop := fun i H' => ∃ w' acc xs, w'.H = H' ∧ w'.H D = some (.lst xs) ∧ w'.G D = none ∧ Rel K w' ∧ Ext w1 w' ∧ RpAll K w' acc xs ∧ wLc vs gg gt ge ρ (ds.drop i) acc w'.h (fun acc h2 => F acc h2 Q3)
  refine ⟨fun i n H' => n = ds.length - i ∧ i ≤ ds.length ∧ Inv' i H', ⟨ds.length, rfl, Nat.zero_le _, ⟨w1.h, w1.G, upd w1.H D (.lst [])⟩, [], [], rfl, upd_same, gD, r1.junkPut gD _, ⟨fun p x h1 h2 => ⟨h2, h1⟩, fun p x h1 h2 => ⟨h1, by
    show upd w1.H D _ p = _
    rw [upd_ne (ne p x h2)]; exact h2⟩⟩, .nil, q1⟩, fun i n H' ⟨hn, hl, w', acc, xs, eH, hD, gD', r', e', ra, q'⟩ => ?_⟩
  subst eH hn
  by_cases hi : i < ds.length
  · rw [List.drop_eq_getElem_cons hi] at q'
    refine .inr ⟨ok.go i w' e' r' hi, Inv' (i + 1), fun H' iv => ⟨ds.length - (i + 1), by omega, rfl, hi, iv⟩, fun x H'' hy => ?_⟩
    obtain ⟨w2, eH, hh, r2, e2, p2⟩ := ok.yld i w' x H'' e' r' hy ds[i] (List.getElem?_eq_getElem hi)
    subst eH
    have q' : gg ds[i] (wipD ρ vs) w2.h fun ρ2 h2 => gt ρ2 h2 fun b h3 => if b = true then ge ρ2 h3 fun y h4 => acc.length < sizeLine ∧ wLc vs gg gt ge ρ (ds.drop (i + 1)) (acc ++ [y]) h4 (fun acc h2 => F acc h2 Q3) else wLc vs gg gt ge ρ (ds.drop (i + 1)) acc h3 (fun acc h2 => F acc h2 Q3) := by rw [hh]; exact q'
    refine ⟨ds[i], wipD ρ vs, w2, _, rfl, (((gd.ext r1 e1).ext r' e').ext r2 e2).wipe vs, p2, q', fun ρ3 w3 σ3 q3 g3 e3 z3 => ⟨z3.trans (wipe_wipe σ vs vs fun _ z => z), ρ3, w3, _, rfl, g3, q3, fun b w4 q4 r4 e4 => ?_⟩⟩
    cases b with
    | true =>
      rw [if_pos rfl] at q4 ⊢
      refine ⟨ρ3, w4, _, rfl, g3.ext r4 e4, q4, fun y w5 v5 ⟨hz, q5⟩ r5 e5 p5 => ?_⟩
      have e25 : Ext w' w5 := ((e2.trans e3).trans e4).trans e5
      obtain ⟨g5, h5⟩ := e25.junk D _ gD' hD
      have fz : Fzs w5 ⟨w5.h, w5.G, upd w5.H D (.lst (xs ++ [v5]))⟩ := fun p x h1 h2 => ⟨h2, h1⟩
      refine ⟨xs, h5, by rw [← ra.length]; exact hz, ⟨w5.h, w5.G, upd w5.H D (.lst (xs ++ [v5]))⟩, acc ++ [y], xs ++ [v5], rfl, upd_same, g5, r5.junkPut g5 _, ⟨fun p x h1 h2 => (e'.trans e25).fz p x h1 h2, fun p x h1 h2 => ?_⟩, RpAll.fz fz ((ra.ext e25).append (.cons p5 .nil)), q5⟩
      obtain ⟨z1, z2⟩ := (e'.trans e25).junk p x h1 h2
      exact ⟨z1, by show upd w5.H D _ p = _; rw [upd_ne (ne p x h2)]; exact z2⟩
    | false =>
      rw [if_neg Bool.false_ne_true] at q4 ⊢
      have e24 : Ext w' w4 := (e2.trans e3).trans e4
      obtain ⟨g4, h4⟩ := e24.junk D _ gD' hD
      exact ⟨w4, acc, xs, rfl, h4, g4, r4, e'.trans e24, ra.ext e24, q4⟩
  · have e : i = ds.length := by omega
    subst e
    rw [List.drop_length] at q'
    refine .inl ⟨ok.stop w' e' r', ?_⟩
    rcases hF acc w'.h Q3 q' with q2 | q2
    · obtain ⟨r7, fz7⟩ := r'.tell gD' hD
      refine out.go (w' := ⟨w'.h, upd w'.G D (.lst xs), w'.H⟩) r7 ⟨fun p x h1 h2 => ?_, fun p x h1 h2 => ?_⟩ (.lst (.inl ⟨r'.hG gD', upd_same⟩) (RpAll.fz fz7 ra)) q2
      · obtain ⟨z1, z2⟩ := (e1.trans e').fz p x h1 h2
        exact fz7 p x z2 z1
      · obtain ⟨z1, z2⟩ := e1.junk p x h1 h2
        obtain ⟨z3, z4⟩ := e'.junk p x z1 z2
        exact ⟨by show upd w'.G D _ p = _; rw [upd_ne (ne p x z2)]; exact z3, z4⟩
    · have r7 := r'.tellM gD' hD ra
      refine out.go (w' := ⟨mput w'.h D (.lst acc), upd w'.G D (.lst xs), w'.H⟩) r7 ⟨fun p x h1 h2 => ?_, fun p x h1 h2 => ?_⟩ (.ref D) (q2 D (r'.hG gD'))
      · obtain ⟨z1, z2⟩ := (e1.trans e').fz p x h1 h2
        have n : p ≠ D := fun z => by rw [z, gD'] at z1; cases z1
        exact ⟨by show upd w'.G D _ p = _; rw [upd_ne n]; exact z1, by show mput w'.h D _ p = _; rw [mput_ne n]; exact z2⟩
      · obtain ⟨z1, z2⟩ := e1.junk p x h1 h2
        obtain ⟨z3, z4⟩ := e'.junk p x z1 z2
        exact ⟨by show upd w'.G D _ p = _; rw [upd_ne (ne p x z2)]; exact z3, z4⟩
variable {elt tg iter : Expr} {ifs : List Expr} {scope : Scope} {pos : Pos} {gi : GI} {gg : GG} {gt : GT} {ge : GE}
theorem e_lc (own : List (Str × Nat)) (hc : X.calm = true) (hN : X.N.Nodup) (hi : I3 X tg iter gi) (ok : BlkOk X.N X.env.scope scope own)
    (hg : ∀ (s : Shared) (H : Hp) (C : Addr) (cl : List (Str × Addr)) (fp : List Addr), G3t (X.blk s H scope (compEnvC scope cl C X.env) fp) tg (own.map (·.2)) gg) (ht : ∀ (s : Shared) (H : Hp) (C : Addr) (cl : List (Str × Addr)) (fp : List Addr), T3s (X.blk s H scope (compEnvC scope cl C X.env) fp) ifs gt)
    (he : ∀ (s : Shared) (H : Hp) (C : Addr) (cl : List (Str × Addr)) (fp : List Addr), E3 (X.blk s H scope (compEnvC scope cl C X.env) fp) elt ge) (hs : ∀ x, foldedSetIterable iter X.env x = pure x := by intro _; rfl) :
    E3 X (.ListComp elt [⟨tg, iter, ifs, 0⟩] scope pos) (gLc (own.map (·.2)) gi gg gt ge) := PEimp (pe_lc (g := loG X.K (List.map (fun x : Str × Nat => x.2) own) gg) (tt := loT X.K gt) (te := lo X.K ge) hc hN hi ok hg ht he hs) fun _ _ _ h => lo_lc (F := fun acc h2 Q => Q (.lst acc) h2) (fun _ _ _ z => .inl z) h
theorem e_mlc (own : List (Str × Nat)) (hc : X.calm = true) (hN : X.N.Nodup) (hi : I3 X tg iter gi) (ok : BlkOk X.N X.env.scope scope own)
    (hg : ∀ (s : Shared) (H : Hp) (C : Addr) (cl : List (Str × Addr)) (fp : List Addr), G3t (X.blk s H scope (compEnvC scope cl C X.env) fp) tg (own.map (·.2)) gg) (ht : ∀ (s : Shared) (H : Hp) (C : Addr) (cl : List (Str × Addr)) (fp : List Addr), T3s (X.blk s H scope (compEnvC scope cl C X.env) fp) ifs gt)
    (he : ∀ (s : Shared) (H : Hp) (C : Addr) (cl : List (Str × Addr)) (fp : List Addr), E3 (X.blk s H scope (compEnvC scope cl C X.env) fp) elt ge) (hs : ∀ x, foldedSetIterable iter X.env x = pure x := by intro _; rfl) :
    E3 X (.ListComp elt [⟨tg, iter, ifs, 0⟩] scope pos) (gMLc (own.map (·.2)) gi gg gt ge) := PEimp (pe_lc (g := loG X.K (List.map (fun x : Str × Nat => x.2) own) gg) (tt := loT X.K gt) (te := lo X.K ge) hc hN hi ok hg ht he hs) fun _ _ _ h => lo_lc (F := fun acc h2 Q => ∀ p, h2 p = none → Q (.ref p) (mput h2 p (.lst acc))) (fun _ _ _ z => .inr z) h
/-- name = [..] on one line, a local -/
theorem s_setLc (i : Nat) (own : List (Str × Nat)) {y : Str} {py spos : Pos} (hc : X.calm = true) (hN : X.N.Nodup) (hy : X.N[i]? = some y) (hyl : X.env.scope.names.lookup y = some .local) (hsw : swapsWith (.ListComp elt [⟨tg, iter, ifs, 0⟩] scope pos) (some (.Name y py)) spos.line X.env = pure true)
    (hi : I3 X tg iter gi) (ok : BlkOk X.N X.env.scope scope own)
    (hg : ∀ (s : Shared) (H : Hp) (C : Addr) (cl : List (Str × Addr)) (fp : List Addr), G3t (X.blk s H scope (compEnvC scope cl C X.env) fp) tg (own.map (·.2)) gg) (ht : ∀ (s : Shared) (H : Hp) (C : Addr) (cl : List (Str × Addr)) (fp : List Addr), T3s (X.blk s H scope (compEnvC scope cl C X.env) fp) ifs gt)
    (he : ∀ (s : Shared) (H : Hp) (C : Addr) (cl : List (Str × Addr)) (fp : List Addr), E3 (X.blk s H scope (compEnvC scope cl C X.env) fp) elt ge) (hs : ∀ x, foldedSetIterable iter X.env x = pure x := by intro _; rfl) :
    S3 X (.Assign [.Name y py] (.ListComp elt [⟨tg, iter, ifs, 0⟩] scope pos) spos) (gSet i (gLc (own.map (·.2)) gi gg gt ge)) := PSimp (ps_setLc (g := loG X.K (List.map (fun x : Str × Nat => x.2) own) gg) (tt := loT X.K gt) (te := lo X.K ge) hc hN hy hyl hsw hi ok hg ht he hs) fun _ _ _ h => lo_set (fun _ _ _ h => lo_lc (F := fun acc h2 Q => Q (.lst acc) h2) (fun _ _ _ z => .inl z) h) h
theorem s_setMLc (i : Nat) (own : List (Str × Nat)) {y : Str} {py spos : Pos} (hc : X.calm = true) (hN : X.N.Nodup) (hy : X.N[i]? = some y) (hyl : X.env.scope.names.lookup y = some .local) (hsw : swapsWith (.ListComp elt [⟨tg, iter, ifs, 0⟩] scope pos) (some (.Name y py)) spos.line X.env = pure true)
    (hi : I3 X tg iter gi) (ok : BlkOk X.N X.env.scope scope own)
    (hg : ∀ (s : Shared) (H : Hp) (C : Addr) (cl : List (Str × Addr)) (fp : List Addr), G3t (X.blk s H scope (compEnvC scope cl C X.env) fp) tg (own.map (·.2)) gg) (ht : ∀ (s : Shared) (H : Hp) (C : Addr) (cl : List (Str × Addr)) (fp : List Addr), T3s (X.blk s H scope (compEnvC scope cl C X.env) fp) ifs gt)
    (he : ∀ (s : Shared) (H : Hp) (C : Addr) (cl : List (Str × Addr)) (fp : List Addr), E3 (X.blk s H scope (compEnvC scope cl C X.env) fp) elt ge) (hs : ∀ x, foldedSetIterable iter X.env x = pure x := by intro _; rfl) :
    S3 X (.Assign [.Name y py] (.ListComp elt [⟨tg, iter, ifs, 0⟩] scope pos) spos) (gSet i (gMLc (own.map (·.2)) gi gg gt ge)) := PSimp (ps_setLc (g := loG X.K (List.map (fun x : Str × Nat => x.2) own) gg) (tt := loT X.K gt) (te := lo X.K ge) hc hN hy hyl hsw hi ok hg ht he hs) fun _ _ _ h => lo_set (fun _ _ _ h => lo_lc (F := fun acc h2 Q => ∀ p, h2 p = none → Q (.ref p) (mput h2 p (.lst acc))) (fun _ _ _ z => .inr z) h) h
end
end G3

namespace G3
open PySem PyProof.Rows L2

/-! ### what a def promises, over trees; nothing raised; no repr under way at the call -/
abbrev Sp3 := List Dv → Mh → Kd → Prop
def up (K : PySem.W.Frag) (sp : Sp3) : List V → Hp → VK → Prop := fun vs H Q => ∃ ds w Q3, w.H = H ∧ Rel K w ∧ RpAll K w ds vs ∧ sp ds w.h Q3 ∧ Out K w Q3 Q
structure FnG (P : Program) (w : World) (K : PySem.W.Frag) (mg : Str → Option Value) (base : Heap) (k : Nat) (f : Addr) (fd : FuncData) (ps : List Str) (sp : Sp3) : Prop where
  len : ∀ ds h Q, sp ds h Q → ds.length = ps.length
  run : ∀ (A : Around) (outer : List Env) (s : Shared) (H : Hp) (args : Args) (us : List Value) (vs : List V) (Q : VK), Room k A → A.guards = some [] → Env0 P w K mg base A outer s H → BindsTo s fd args (ps.zip us) → Vals vs us → up K sp vs H Q →
    codeAny (model P w) A (.call (.ref f) args) (CR CX0 outer P w H s Q E0) s
section
variable {P : Program} {w : World} {K : PySem.W.Frag} {mg : Str → Option Value} {base : Heap} {j k : Nat} {f : Addr} {fd : FuncData} {ps : List Str} {sp sp' : Sp3}
theorem FnG.imp (F : FnG P w K mg base k f fd ps sp) (i : ∀ ds h Q, sp' ds h Q → sp ds h Q) : FnG P w K mg base k f fd ps sp' :=
  ⟨fun ds h Q z => F.len ds h Q (i _ _ _ z), fun A outer s H args us vs Q hr hg e0 hb hv ⟨ds, v, Q3, a, b, c, d, e⟩ => F.run A outer s H args us vs Q hr hg e0 hb hv ⟨ds, v, Q3, a, b, c, i _ _ _ d, e⟩⟩
theorem FnG.mono (F : FnG P w K mg base j f fd ps sp) (h : j ≤ k) : FnG P w K mg base k f fd ps sp :=
  ⟨F.len, fun A outer s H args us vs Q hr => F.run A outer s H args us vs Q (hr.mono h)⟩
theorem lenD {K : PySem.W.Frag} {w : Wd} {ds : List Dv} {vs : List V} (r : RpAll K w ds vs) : vs.length = ds.length := r.length.symm
@[simp] def startD (N : List Str) (ds : List Dv) : Sl := ds.map some ++ List.replicate (N.length - ds.length) none
theorem good_start {K : PySem.W.Frag} {w : Wd} {ds : List Dv} {vs : List V} (N : List Str) (r : Rel K w) (ra : RpAll K w ds vs) : Good K (startD N ds) w (L2.start N vs) := by
  refine ⟨r, ?_, fun i d h => ?_⟩
  · unfold startD L2.start
    rw [List.length_append, List.length_append, List.length_map, List.length_map, List.length_replicate, List.length_replicate, ra.length]
  · unfold startD at h
    by_cases hi : i < ds.length
    · rw [List.getElem?_append_left (by simpa using hi), List.getElem?_map] at h
      cases e : ds[i]? with
      | none => rw [e] at h; cases h
      | some d' =>
        rw [e] at h
        cases h
        obtain ⟨v, hv, rv⟩ := ra.get' e
        refine ⟨v, ?_, rv⟩
        unfold L2.start
        rw [List.getElem?_append_left (by rw [List.length_map, ← ra.length]; exact hi), List.getElem?_map, hv]
        rfl
    · rw [List.getElem?_append_right (by simpa using hi), List.getElem?_replicate] at h
      split at h <;> cases h
/-- a def by its body -/
theorem fn_g {x qual : Str} {st : Stmt} {N : List Str} (F : Fun K x qual st f fd) (S : FnScope N ps (defScope st)) (len : ∀ ds h Q, sp ds h Q → ds.length = ps.length) {g : GS}
    (hb : ∀ (cdv : Value) (A : Around) (outer : List Env) (s : Shared) (H : Hp), Room k (A.deeper (envOfC qual (defScope st) s.heap.objs.size f cdv)) → A.guards = some [] →
      B3 (cxOf CX0 P w K mg base N qual (defScope st) f cdv A outer s H E0).nox (defBody st) g)
    (hg : ∀ ds h Q, sp ds h Q → g { nx := fun _ h' => Q .non h', rt := Q } (startD N ds) h) : FnG P w K mg base (k + 1) f fd ps sp := by
  obtain ⟨oc, od, kV, doc, pm, an, cdv, ct, osl, rfl, lk, hcd⟩ := F.ex
  refine ⟨len, fun A outer s H args us vs Q hr hgd e0 hbd hv ⟨ds, v, Q3, eH, rl, ra, hsp, out⟩ => ?_⟩
  subst eH
  have hl : vs.length = ps.length := by rw [lenD ra]; exact len _ _ _ hsp
  have KX : K.In s.heap := e0.mod.kin.keeps fun b o e => (e0.bs b o e).1
  have kinds : ∀ y ∈ ps.zip us, (defScope st).names.lookup y.1 = some .local ∨ ((defScope st).names.lookup y.1 = some .cell ∧ ((cellsFrom (s.heap.objs.size + 1) (defScope st).names []).lookup y.1).isSome = true) := by
    rintro ⟨n, val⟩ hy
    rcases S.par n (List.of_mem_zip hy).1 with z | z
    · exact .inl z
    · exact .inr ⟨z, PySem.W.cellsFrom_some _ _ _ (.inl z)⟩
  refine codeAny_call_function hr.depth (KX _ _ lk) rfl S.co S.gen rfl (PySem.W.codeRec_of KX hcd) (hbd _ _ _ _ (wpAny_newFunctionEnv_cells S.kind kinds fun env he s1 xc => ?_))
  subst he
  refine ⟨(e0.mod.nolimit.keeps fun b o e => (e0.bs b o e).1).keeps xc.toInCall.keep, codeAny_func ?_⟩
  have I := inv_start (CX := CX0) (E := E0) S hr.hd e0 hl hv xc
  have body := (PSs.nox (hb cdv A outer s v.H (hr.deeper _) hgd)).run [] s1 (L2.start N vs) v.H { nx := fun _ H' => Q .non H', rt := Q } I
    ⟨startD N ds, v, { nx := fun _ h' => Q3 .non h', rt := Q3 }, rfl, good_start N rl ra, hg _ _ _ hsp, ⟨fun ρ w' σ q gd e => out.go gd.rel e .non q, out, fun _ _ _ q _ _ => q.elim, fun _ _ _ q _ _ => q.elim⟩⟩
  refine wpAny_mono body (fun fl s' hs => ?_) fun e s' hs => hs
  cases fl with
  | ret u =>
    obtain ⟨r, σ', H', J, rr, q⟩ := hs
    exact ⟨r, H', J.os, J.bare, J.base, J.hok, rr, q⟩
  | next =>
    obtain ⟨σ', H', J, q⟩ := hs
    exact ⟨V.non, H', J.os, J.bare, J.base, J.hok, rfl, q⟩
  | brk =>
    obtain ⟨_, _, _, q⟩ := hs
    exact q.elim
  | cont =>
    obtain ⟨_, _, _, q⟩ := hs
    exact q.elim
end

/-! ### calls -/
section
variable {X : Cx} {k : Nat} {f : Addr} {fd : FuncData} {ps : List Str} {sp : Sp3} {x : Str} {p pos : Pos} {e : Expr} {es : List Expr} {gs : GA}
theorem run_g {pins : List (Addr × Obj)} {σ : L2.St} {H : Hp} {s : Shared} {Q : VK} {us : List Value} {vs : List V} (F : FnG X.prog X.w X.K X.mg X.base k f fd ps sp) (hr : Room k X.A) (hg : X.A.guards = some []) (hb : Binds X.K fd ps []) (I : L2.Inv X pins σ H s) (r : Vals vs us) (h : up X.K sp vs H Q) :
    wpAny (model X.prog X.w) X.A (call (.ref f) us) (EP X pins σ Q) X.xe s := by
  have hl : (us ++ []).length = ps.length := by
    obtain ⟨ds, w, Q3, e1, rl, ra, hsp, out⟩ := h
    rw [List.append_nil, ← r.length, lenD ra]
    exact F.len _ _ _ hsp
  have hbs := hb s us I.kIn hl
  rw [List.append_nil] at hbs
  refine wpAny_call (codeAny_mono (F.run X.A X.stack s H ⟨us, []⟩ us vs Q hr hg I.env0 hbs r h) fun res s' hq => ?_)
  cases res with
  | error e => exact hq.elim
  | ok fl =>
    cases fl with
    | ret u => exact I.after hq
    | next => exact hq.elim
    | brk => exact hq.elim
    | cont => exact hq.elim
@[simp] def gFn (sp : Sp3) (gs : GA) : GE := fun ρ h Q => gs ρ h fun ds h1 => sp ds h1 Q
theorem e_call (F : FnG X.prog X.w X.K X.mg X.base k f fd ps sp) (hr : Room k X.A) (hgd : X.A.guards = some []) (hg : Gl X x) (hm : X.mg x = some (.ref f)) (hk : PySem.W.keepIn X.K (.ref f) = true) (hb : Binds X.K fd ps []) (ha : A3 X (e :: es) gs) (hdb : (x == ("__debug__" : Str)) = false := by decide)
    (he : starEach (e :: es) X.env = (false, eval e X.env) :: starEach es X.env := by rfl) (hpl : (backTo pos (starEach es X.env)).any (·.1) = false := by rfl) : E3 X (.Call (.Name x p) (e :: es) [] pos) (gFn sp gs) := by
  refine ⟨fun pins s σ H Q I ⟨ρ, w, Q3, eH, gd, q, out⟩ => ?_⟩
  subst eH
  refine wpAny_Call_Name_kw (ld_glob I hg hm ?_ hdb)
  have args := ha.run pos pins s σ w.H (fun vs H1 => up X.K sp vs H1 Q) I ⟨ρ, w, _, rfl, gd, q, fun ds w1 vs q1 r1 e1 p1 => ⟨ds, w1, Q3, rfl, r1, p1, q1, out.ext e1⟩⟩
  exact PySem.W.callWith_K (h₀ := X.base) I.ok.mod.kin hk (thn args fun us s1 ⟨vs, H1, I1, r, q⟩ => ⟨I1.kIn, run_g F hr hgd hb I1 r q⟩) he hpl
theorem e_call0 (F : FnG X.prog X.w X.K X.mg X.base k f fd ps sp) (hr : Room k X.A) (hgd : X.A.guards = some []) (hg : Gl X x) (hm : X.mg x = some (.ref f)) (hk : PySem.W.keepIn X.K (.ref f) = true) (hb : Binds X.K fd ps []) (hdb : (x == ("__debug__" : Str)) = false := by decide) :
    E3 X (.Call (.Name x p) [] [] pos) (gFn sp gNil) := by
  refine ⟨fun pins s σ H Q I ⟨ρ, w, Q3, eH, gd, q, out⟩ => ?_⟩
  subst eH
  refine wpAny_Call_Name_kw (ld_glob I hg hm ?_ hdb)
  exact PySem.W.callWith_K0 I.kIn hk (run_g (us := []) F hr hgd hb I .nil ⟨[], w, Q3, rfl, gd.rel, .nil, q, out⟩)
end

/-! ### the end: the law's def, called with the script -/
section
open PySem.W
theorem ints_rp (K : Frag) (wd : Wd) : ∀ ns : List Int, RpAll K wd (ns.map Dv.int) (ns.map V.int)
  | [] => .nil
  | i :: r => .cons (.int i) (ints_rp K wd r)
/-- a known script, or one of the module's own lists -/
theorem end_core {P : Program} {w : World} {K : Frag} {mg mb : Str → Option Value} {k : Nat} {fa a : Addr} {fd : FuncData} {x : Str} {sp : Sp3} {s1 : Shared} {vs : List Value} {ns : List Int} {ob : Obj} (b : Bool)
    (hob : ob = { cls := .type "list", data := .seq vs.toArray }) (KX : K.In s1.heap) (hns : s1.heap.Ns mainGlobals mg) (hbt : s1.heap.Ns builtinsNs mb) (hbb : ∀ x : Str, x ≠ "__name__" → mb x = bootBuiltins x) (hlim : s1.heap.NoLimit) (hgn : s1.gens = #[])
    (ha : s1.heap.get? a = some ob) (hi : IntsAre vs ns) (hl : ns.length ≤ sizeLine) (hr : Room k callerA) (hK : b = true → K.lookup a = none) (hK' : b = false → K.lookup a = some ob)
    (F : ∀ base : Heap, K.In base → base.Ns mainGlobals mg → FnG P w K mg base k fa fd [x] sp) (hbind : ∀ (s : Shared) (u : Value), BindsTo s fd ⟨[u], []⟩ [(x, u)])
    (hsp : sp [.lst (ns.map Dv.int)] (fun _ => none) (fun v _ => v = .bl true)) :
    codeAny (model P w) callerA (.call (.ref fa) ⟨[.ref a], []⟩) (fun r s' => r = .ok (.ret (.bool true)) ∧ OldK s1.heap s'.heap ∧ s'.os = s1.os ∧ AllBare s'.gens) s1 := by
  have rv := vals_ints hi
  let G : Hp := fun p => if p = a ∧ b = true then some (.lst (ns.map V.int)) else none
  let H : Hp := fun p => if p = a ∧ b = true then some (.frz ob (.lst (ns.map V.int))) else none
  have Hn : ∀ p u, H p = some u → p = a ∧ b = true ∧ u = .frz ob (.lst (ns.map V.int)) := fun p u h => by
    by_cases e : p = a ∧ b = true
    · have h : (if p = a ∧ b = true then some (HO.frz ob (.lst (ns.map V.int))) else none) = some u := h
      rw [if_pos e] at h
      cases h
      exact ⟨e.1, e.2, rfl⟩
    · have h : (if p = a ∧ b = true then some (HO.frz ob (.lst (ns.map V.int))) else none) = some u := h
      rw [if_neg e] at h
      cases h
  have Gn : ∀ p u, G p = some u → p = a ∧ b = true ∧ u = .lst (ns.map V.int) := fun p u h => by
    by_cases e : p = a ∧ b = true
    · have h : (if p = a ∧ b = true then some (HO.lst (ns.map V.int)) else none) = some u := h
      rw [if_pos e] at h
      cases h
      exact ⟨e.1, e.2, rfl⟩
    · have h : (if p = a ∧ b = true then some (HO.lst (ns.map V.int)) else none) = some u := h
      rw [if_neg e] at h
      cases h
  have seq : ∀ {p : Addr} {o : Obj} {es : Array DictEntry} {ep : Nat}, s1.heap.get? p = some o → o.data = .dict es ep → H p = none := fun {p o es ep} e d => by
    cases q : H p with
    | none => rfl
    | some u =>
      obtain ⟨e1, _, _⟩ := Hn p u q
      subst e1
      rw [ha, hob] at e
      cases e
      cases d
  have kept : ∀ {p : Addr} {o : Obj}, s1.heap.get? p = some o → H p = none → (hidT s1.heap H).get? p = some o := fun e n => hidT_get e n
  have nsK : ∀ {p : Addr} {m : Str → Option Value}, s1.heap.Ns p m → (hidT s1.heap H).Ns p m := fun ⟨o, es, ep, e, d, r⟩ => ⟨o, es, ep, kept e (seq e d), d, r⟩
  have KB : K.In (hidT s1.heap H) := fun p o e => kept (KX p o e) (by
    cases q : H p with
    | none => rfl
    | some u =>
      obtain ⟨e1, e2, _⟩ := Hn p u q
      subst e1
      rw [hK e2] at e
      cases e)
  obtain ⟨mc, n1, n2⟩ := hlim
  have M : Mod K mg (hidT s1.heap H) := ⟨KB, nsK hns, ⟨mb, nsK hbt, hbb⟩, ⟨mc, nsK n1, n2⟩⟩
  have lz : (ns.map V.int).length ≤ sizeLine := by rw [List.length_map]; exact hl
  have hok : HOk P w H s1.heap := fun p u q => by
    obtain ⟨e1, _, e3⟩ := Hn p u q
    subst e1 e3
    exact ⟨ha, lz, vs, _, rv, by rw [ha, hob]⟩
  have e0 : Env0 P w K mg (hidT s1.heap H) callerA [] s1 H := ⟨rfl, M, fun p o e => of_hidT e, Nat.le_of_eq (hidT_size _ _), trivial, fun p hp => (by cases hp), hok, .of_eq hgn⟩
  have rel : Rel K ⟨fun _ => none, G, H⟩ := ⟨fun p u h => by
    obtain ⟨e1, e2, e3⟩ := Gn p u h
    subst e1 e3
    exact .inr ⟨rfl, ob, if_pos ⟨rfl, e2⟩⟩, fun _ _ h => by cases h⟩
  have rp : Rp K ⟨fun _ => none, G, H⟩ (.lst (ns.map Dv.int)) (.ref a) := by
    refine .lst (xs := ns.map V.int) ?_ (ints_rp K _ ns)
    cases b with
    | true => exact .inl ⟨rfl, if_pos ⟨rfl, rfl⟩⟩
    | false => exact .inr (.inr ⟨ob, vs.toArray, _, hK' rfl, by rw [hob], by rw [hob], by rw [hob], by rw [List.size_toArray, ← rv.length]; exact lz, by simpa using rv⟩)
  refine codeAny_mono ((F _ KB (nsK hns)).run callerA [] s1 H ⟨[.ref a], []⟩ [.ref a] [.ref a] (fun v _ => v = .bl true) hr rfl e0 (hbind s1 (.ref a)) (.cons rfl .nil)
    ⟨[.lst (ns.map Dv.int)], ⟨fun _ => none, G, H⟩, fun v _ => v = .bl true, rfl, rel, .cons rp .nil, hsp, fun d w' v q _ _ p => by
      subst q
      cases p
      rfl⟩) fun r s' h => ?_
  cases r with
  | error e => exact h.elim
  | ok fl =>
    cases fl with
    | next => exact h.elim
    | brk => exact h.elim
    | cont => exact h.elim
    | ret u =>
      obtain ⟨v, H', os, bare, un, hok', r', q⟩ := h
      subst q
      obtain rfl : u = Value.bool true := r'
      refine ⟨rfl, OldK.of_keep fun p o e => ?_, os, bare⟩
      cases q : H p with
      | none => exact un.keep p o e q (fun z => by cases z) (fun z => by cases z)
      | some u =>
        obtain ⟨_, _, e3⟩ := Hn p u q
        subst e3
        obtain ⟨z1, _⟩ := hok p _ q
        obtain ⟨z2, _⟩ := hok' p _ (un.frzs p ob _ q)
        rw [e] at z1
        cases z1
        exact z2
theorem walk_g {l : OpenLaw} {n k : Nat} {q : Program} {loose : List Str} {XP : (Str → Option Value) → Heap → Prop} {YP : World → Heap → Prop} {d : DefRec} {K : Params → Frag} {sp : Sp3} {x : Str}
    (hn : l.most = some n) (hn2 : n ≤ sizeLine) (hdf : d.params.defaults = []) (hr : Room k callerA) (hY : ∀ (w : World) (h : Heap), YP w h → (K w.params).In h)
    (F : ∀ (w : World) (mg : Str → Option Value) (fa : Addr) (h : Heap), (K w.params).In h → h.Ns mainGlobals mg → mg d.name = some (.ref fa) →
      ∃ fd : FuncData, (∀ (s : Shared) (u : Value), BindsTo s fd ⟨[u], []⟩ [(x, u)]) ∧ ∀ base : Heap, (K w.params).In base → base.Ns mainGlobals mg → FnG l.prog w (K w.params) mg base k fa fd [x] sp)
    (hsp : ∀ (ns : List Int), ns.length ≤ n → sp [.lst (ns.map Dv.int)] (fun _ => none) (fun v _ => v = .bl true)) :
    WalkO q loose XP YP l.row.toRowW d [] (fun f vs => PySem.call f vs) := by
  refine Att.attach_call hn hdf fun w s₀ s₁ mg mb fa o pm cd doc a vs ns G Y ho hd hcd hmg hobj hints hlen hg => ?_
  have KX := hY w _ Y
  obtain ⟨fd, hb, hF⟩ := F w mg fa _ KX G.T.g hmg
  cases hk : (K w.params).lookup a with
  | none => exact end_core true rfl KX G.T.g G.T.b G.T.builtins G.T.nolimit hg hobj hints (Nat.le_trans hlen hn2) hr (fun _ => hk) (fun z => by cases z) hF hb (hsp ns hlen)
  | some ob =>
    have e := KX a ob hk
    rw [hobj] at e
    cases e
    exact end_core false rfl KX G.T.g G.T.b G.T.builtins G.T.nolimit hg hobj hints (Nat.le_trans hlen hn2) hr (fun z => by cases z) (fun _ => hk) hF hb (hsp ns hlen)
end
end G3

namespace G3
open PySem L2

abbrev rSubD : D2 := rArI (fun _ _ => True) fun i j => i - j
abbrev rModD : D2 := rArI (fun _ j => 0 < j) fun i j => i % j
abbrev rFdvD : D2 := rArI CDivW fun i j => i / j
abbrev rPowD : D2 := rArI CPow fun i j => i ^ j.toNat
abbrev rMulD : D2 := D2or (rArI CMulW fun i j => i * j) rMulT
abbrev rLtD : D2 := rCmpI fun i j => decide (i < j)
abbrev rLeD : D2 := rCmpI fun i j => decide (i ≤ j)
abbrev rGtD : D2 := rCmpI fun i j => decide (j < i)
abbrev rGeD : D2 := rCmpI fun i j => decide (j ≤ i)
/-- a list that changes no more -/
@[simp] def gFrz (g : GE) : GE := fun ρ h Q => g ρ h fun d h1 => match d with
  | .ref a => ∃ ds, h1 a = some (.lst ds) ∧ Q (.lst ds) (mdel h1 a)
  | d => Q d h1
theorem e_frz {X : Cx} {e : Expr} {ge : GE} (he : E3 X e ge) : E3 X e (gFrz ge) := PEimp he fun σ H Q ⟨ρ, w, Q3, e, gd, q, out⟩ => by
  subst e
  refine ⟨ρ, w, _, rfl, gd, q, fun d w1 v q1 r1 e1 p1 => ?_⟩
  cases d with
  | ref a =>
    obtain ⟨ds, hh, q2⟩ := q1
    cases p1
    obtain ⟨xs, hG, hH, ra⟩ := r1.mlst hh
    obtain ⟨r2, e2⟩ := r1.del a
    exact out.go (w' := ⟨mdel w1.h a, w1.G, w1.H⟩) r2 (e1.trans e2) (.lst (.inl ⟨mdel_same, hG⟩) (ra.ext e2)) q2
  | _ => exact out.go r1 e1 p1 q1

/-! ### the readings, opened -/
theorem mul_int (i j : Int) (h : Mh) (Q : Kd) : rMulD (.int i) (.int j) h Q ↔ CMulW i j ∧ Q (.int (i * j)) h := by
  constructor
  · rintro (⟨a, b, e1, e2, c, q⟩ | ⟨xs, k, e, _⟩)
    · cases e1; cases e2; exact ⟨c, q⟩
    · cases e
  · rintro ⟨c, q⟩
    exact .inl ⟨i, j, rfl, rfl, c, q⟩
/-- products of numbers that aren't huge -/
theorem mulOk {i j : Int} (hi : i.natAbs < 2 ^ 300) (hj : j.natAbs < 2 ^ 300) : CMulW i j := wide_mul hi hj (by decide) (by decide) (by decide)
theorem divOk {i j : Int} (h : 0 < j) (hj : j.natAbs < 2 ^ 300) : CDivW i j := wide_div h hj (by decide) (by decide)
theorem mulLt {i j : Int} {a b : Nat} (hi : i.natAbs < 2 ^ a) (hj : j.natAbs < 2 ^ b) : (i * j).natAbs < 2 ^ (a + b) := wide_lt hi hj
theorem absLt {i : Int} {a : Nat} (h0 : 0 ≤ i) (h : i < 2 ^ a) : i.natAbs < 2 ^ a := by
  have : ((i.natAbs : Nat) : Int) < ((2 ^ a : Nat) : Int) := by
    rw [Int.natCast_pow]
    have e : ((i.natAbs : Nat) : Int) = i := by omega
    rw [e]
    exact h
  omega
end G3

namespace G3
open PySem L2

@[simp] theorem sizeLine_val : sizeLine = 16777216 := by decide
/-! ### the readings at things of known shape -/
section
variable {h : Mh} {z : Str} {i : Int} {b : Bool} {ds : List Dv} {a : Addr}
@[simp] theorem tyOf_non : tyOf h .non = some "NoneType" := rfl
@[simp] theorem tyOf_bl : tyOf h (.bl b) = some "bool" := rfl
@[simp] theorem tyOf_int : tyOf h (.int i) = some "int" := rfl
@[simp] theorem tyOf_str : tyOf h (.str z) = some "str" := rfl
@[simp] theorem tyOf_tup : tyOf h (.tup ds) = some "tuple" := rfl
@[simp] theorem tyOf_lst : tyOf h (.lst ds) = some "list" := rfl
theorem tyOf_ref (e : h a = some (.lst ds)) : tyOf h (.ref a) = some "list" := by simp [tyOf, e]
@[simp] theorem walkOf_str : walkOf (.str z) = some (z.cps.toList.map fun c => .str ⟨#[c]⟩) := rfl
@[simp] theorem walkOf_tup : walkOf (.tup ds) = some ds := rfl
@[simp] theorem walkOf_lst : walkOf (.lst ds) = some ds := rfl
@[simp] theorem lstOf_lst : lstOf h (.lst ds) = some ds := rfl
@[simp] theorem lstOf_tup : lstOf h (.tup ds) = none := rfl
@[simp] theorem lstOf_str : lstOf h (.str z) = none := rfl
theorem lstOf_ref (e : h a = some (.lst ds)) : lstOf h (.ref a) = some ds := by simp [lstOf, e]
@[simp] theorem seqOf_lst : seqOf h (.lst ds) = some ds := rfl
@[simp] theorem seqOf_tup : seqOf h (.tup ds) = some ds := rfl
@[simp] theorem seqOf_str : seqOf h (.str z) = none := rfl
theorem seqOf_ref (e : h a = some (.lst ds)) : seqOf h (.ref a) = some ds := by simp [seqOf, lstOf, e]
@[simp] theorem isNon_non : isNon .non = true := rfl
@[simp] theorem isNon_bl : isNon (.bl b) = false := rfl
@[simp] theorem isNon_int : isNon (.int i) = false := rfl
@[simp] theorem isNon_str : isNon (.str z) = false := rfl
@[simp] theorem isNon_tup : isNon (.tup ds) = false := rfl
@[simp] theorem isNon_lst : isNon (.lst ds) = false := rfl
@[simp] theorem isNon_ref : isNon (.ref a) = false := rfl
@[simp] theorem isNon_obj : isNon (.obj a) = false := rfl
@[simp] theorem str1_beq {c d : Nat} : (({ cps := #[c] } : Str) == { cps := #[d] }) = decide (c = d) := by
  by_cases e : c = d
  · subst e; simp
  · simp only [e, decide_false]
    apply Bool.eq_false_iff.2
    intro q
    have := eq_of_beq q
    simp at this
    exact e this
end

section
variable {h : Mh} {Q : Kd} {z x : Str} {i j : Int} {ds : List Dv} {d : Dv} {a : Addr} {n : String} {neg : Bool}
@[simp] theorem cIsi_mk : cIsi [d, .ty n] h Q ↔ n ∈ ["bool", "int", "str", "tuple", "list"] ∧ ∃ t, tyOf h d = some t ∧ Q (.bl (isB t n)) h := by
  constructor
  · rintro ⟨_, _, t, e, a, b, c⟩
    cases e
    exact ⟨a, t, b, c⟩
  · rintro ⟨a, t, b, c⟩
    exact ⟨_, _, t, rfl, a, b, c⟩
@[simp] theorem cLen_str : cLen [.str z] h Q ↔ z.length ≤ sizeLine ∧ Q (.int z.length) h := by
  constructor
  · rintro ⟨_, e, ⟨_, rfl, a, b⟩ | ⟨_, a, b⟩⟩
    · cases e; exact ⟨a, b⟩
    · cases e; cases a
  · rintro ⟨a, b⟩
    exact ⟨_, rfl, .inl ⟨_, rfl, a, b⟩⟩
@[simp] theorem cLen_tup : cLen [.tup ds] h Q ↔ Q (.int ds.length) h := by
  constructor
  · rintro ⟨_, e, ⟨_, rfl, a, b⟩ | ⟨_, a, b⟩⟩
    · cases e
    · cases e; cases a; exact b
  · intro b
    exact ⟨_, rfl, .inr ⟨_, rfl, b⟩⟩
@[simp] theorem cLen_lst : cLen [.lst ds] h Q ↔ Q (.int ds.length) h := by
  constructor
  · rintro ⟨_, e, ⟨_, rfl, a, b⟩ | ⟨_, a, b⟩⟩
    · cases e
    · cases e; cases a; exact b
  · intro b
    exact ⟨_, rfl, .inr ⟨_, rfl, b⟩⟩
@[simp] theorem cLen_ref : cLen [.ref a] h Q ↔ ∃ ds, h a = some (.lst ds) ∧ Q (.int ds.length) h := by
  constructor
  · rintro ⟨_, e, ⟨_, rfl, a, b⟩ | ⟨es, c, b⟩⟩
    · cases e
    · cases e
      simp only [seqOf, lstOf] at c
      split at c
      · rename_i ds' hh
        cases c
        exact ⟨_, hh, b⟩
      · cases c
  · rintro ⟨ds, c, b⟩
    exact ⟨_, rfl, .inr ⟨ds, seqOf_ref c, b⟩⟩
@[simp] theorem rIx_str : G3.rIxD (.str z) (.int i) h Q ↔ z.length ≤ sizeLine ∧ ∃ c, atI z.cps.toList i = some c ∧ Q (.str ⟨#[c]⟩) h := by
  constructor
  · rintro ⟨_, e, ⟨_, c, e2, a, b, q⟩ | ⟨_, _, a, b, q⟩⟩
    · cases e; cases e2; exact ⟨a, c, b, q⟩
    · cases a
  · rintro ⟨a, c, b, q⟩
    exact ⟨_, rfl, .inl ⟨_, c, rfl, a, b, q⟩⟩
@[simp] theorem rIx_tup : G3.rIxD (.tup ds) (.int i) h Q ↔ ∃ d, atI ds i = some d ∧ Q d h := by
  constructor
  · rintro ⟨_, e, ⟨_, c, e2, a, b, q⟩ | ⟨_, d, a, b, q⟩⟩
    · cases e2
    · cases e; cases a; exact ⟨d, b, q⟩
  · rintro ⟨d, b, q⟩
    exact ⟨_, rfl, .inr ⟨_, d, rfl, b, q⟩⟩
@[simp] theorem rIx_lst : G3.rIxD (.lst ds) (.int i) h Q ↔ ∃ d, atI ds i = some d ∧ Q d h := by
  constructor
  · rintro ⟨_, e, ⟨_, c, e2, a, b, q⟩ | ⟨_, d, a, b, q⟩⟩
    · cases e2
    · cases e; cases a; exact ⟨d, b, q⟩
  · rintro ⟨d, b, q⟩
    exact ⟨_, rfl, .inr ⟨_, d, rfl, b, q⟩⟩
@[simp] theorem rIx_ref : G3.rIxD (.ref a) (.int i) h Q ↔ ∃ ds, h a = some (.lst ds) ∧ ∃ d, atI ds i = some d ∧ Q d h := by
  constructor
  · rintro ⟨_, e, ⟨_, c, e2, a, b, q⟩ | ⟨_, d, c, b, q⟩⟩
    · cases e2
    · cases e
      simp only [seqOf, lstOf] at c
      split at c
      · rename_i ds' hh
        cases c
        exact ⟨_, hh, d, b, q⟩
      · cases c
  · rintro ⟨ds, c, d, b, q⟩
    exact ⟨_, rfl, .inr ⟨ds, d, seqOf_ref c, b, q⟩⟩
@[simp] theorem rIn_str : rInD neg (.str x) (.str z) h Q ↔ Q (.bl (if neg then !strIn x z else strIn x z)) h := by
  constructor
  · rintro (⟨_, _, e, e2, q⟩ | ⟨_, a, _⟩)
    · cases e; cases e2; exact q
    · cases a
  · intro q
    exact .inl ⟨_, _, rfl, rfl, q⟩
@[simp] theorem rIn_tup : rInD neg d (.tup ds) h Q ↔ okIn d ds ∧ Q (.bl (if neg then !isIn d ds else isIn d ds)) h := by
  constructor
  · rintro (⟨_, _, e, e2, q⟩ | ⟨_, a, b⟩)
    · cases e2
    · cases a; exact b
  · intro q
    exact .inr ⟨_, rfl, q⟩
@[simp] theorem rIn_lst : rInD neg d (.lst ds) h Q ↔ okIn d ds ∧ Q (.bl (if neg then !isIn d ds else isIn d ds)) h := by
  constructor
  · rintro (⟨_, _, e, e2, q⟩ | ⟨_, a, b⟩)
    · cases e2
    · cases a; exact b
  · intro q
    exact .inr ⟨_, rfl, q⟩
@[simp] theorem rIn_ref : rInD neg d (.ref a) h Q ↔ ∃ ds, h a = some (.lst ds) ∧ okIn d ds ∧ Q (.bl (if neg then !isIn d ds else isIn d ds)) h := by
  constructor
  · rintro (⟨_, _, e, e2, q⟩ | ⟨ds, c, b⟩)
    · cases e2
    · simp only [seqOf, lstOf] at c
      split at c
      · rename_i ds' hh
        cases c
        exact ⟨_, hh, b⟩
      · cases c
  · rintro ⟨ds, c, q⟩
    exact .inr ⟨ds, seqOf_ref c, q⟩
@[simp] theorem mul_int' : rMulD (.int i) (.int j) h Q ↔ CMulW i j ∧ Q (.int (i * j)) h := mul_int i j h Q
end

@[simp] theorem lstOf_refE {h : Mh} {a : Addr} {ds : List Dv} : lstOf h (.ref a) = some ds ↔ h a = some (.lst ds) := by
  simp only [lstOf]
  split
  · rename_i ds' e
    rw [e]
    simp
  · rename_i n
    simp only [reduceCtorEq, false_iff]
    exact fun e => n _ e
@[simp] theorem seqOf_refE {h : Mh} {a : Addr} {ds : List Dv} : seqOf h (.ref a) = some ds ↔ h a = some (.lst ds) := lstOf_refE
section
variable {h : Mh} {Q : Kd} {x z : Str} {i j : Int} {ds es : List Dv} {a b : Addr} {lo hi : Option Int}
@[simp] theorem rAdd_int : rAddD (.int i) (.int j) h Q ↔ Q (.int (i + j)) h := Iff.rfl
@[simp] theorem rAdd_str : rAddD (.str x) (.str z) h Q ↔ x.length + z.length ≤ sizeLine ∧ Q (.str (x ++ z)) h := Iff.rfl
@[simp] theorem rAdd_tup : rAddD (.tup ds) (.tup es) h Q ↔ ds.length + es.length ≤ sizeLine ∧ Q (.tup (ds ++ es)) h := Iff.rfl
@[simp] theorem rAdd_lst : rAddD (.lst ds) (.lst es) h Q ↔ ds.length + es.length ≤ sizeLine ∧ Q (.lst (ds ++ es)) h := by
  constructor
  · rintro ⟨_, _, e, e2, q⟩
    cases e; cases e2; exact q
  · intro q
    exact ⟨_, _, rfl, rfl, q⟩
@[simp] theorem rAdd_refL : rAddD (.ref a) (.lst es) h Q ↔ ∃ ds, h a = some (.lst ds) ∧ ds.length + es.length ≤ sizeLine ∧ Q (.lst (ds ++ es)) h := by
  constructor
  · rintro ⟨_, _, e, e2, q⟩
    cases e2; exact ⟨_, lstOf_refE.1 e, q⟩
  · rintro ⟨ds, e, q⟩
    exact ⟨_, _, lstOf_refE.2 e, rfl, q⟩
@[simp] theorem rSl_str : rSlD (.str z) lo hi h Q ↔ z.length ≤ sizeLine ∧ Q (.str (cutS z lo hi)) h := Iff.rfl
@[simp] theorem rSl_tup : rSlD (.tup ds) lo hi h Q ↔ Q (.tup (cutD ds lo hi)) h := Iff.rfl
@[simp] theorem rSl_lst : rSlD (.lst ds) lo hi h Q ↔ Q (.lst (cutD ds lo hi)) h := ⟨fun ⟨_, e, q⟩ => by cases e; exact q, fun q => ⟨_, rfl, q⟩⟩
@[simp] theorem rSl_ref : rSlD (.ref a) lo hi h Q ↔ ∃ ds, h a = some (.lst ds) ∧ Q (.lst (cutD ds lo hi)) h := ⟨fun ⟨_, e, q⟩ => ⟨_, lstOf_refE.1 e, q⟩, fun ⟨_, e, q⟩ => ⟨_, lstOf_refE.2 e, q⟩⟩
end
theorem ty_str {h : Mh} {d : Dv} {t : String} (e : tyOf h d = some t) (n : ¬ ∃ z, d = .str z) : t ≠ "str" := by
  cases d with
  | str z => exact absurd ⟨z, rfl⟩ n
  | ref a =>
    simp only [tyOf] at e
    split at e <;> cases e
    decide
  | _ => cases e <;> decide
theorem ty_tup {h : Mh} {d : Dv} {t : String} (e : tyOf h d = some t) (n : ¬ ∃ z, d = .tup z) : t ≠ "tuple" := by
  cases d with
  | tup z => exact absurd ⟨z, rfl⟩ n
  | ref a =>
    simp only [tyOf] at e
    split at e <;> cases e
    decide
  | _ => cases e <;> decide

theorem mul_tup {h : Mh} {Q : Kd} {k : Int} {ds : List Dv} : rMulD (.tup ds) (.int k) h Q ↔ ds ≠ [] ∧ 2 ≤ k ∧ k ≤ 1000 ∧ ds.length ≤ 1000 ∧ Q (.tup (List.replicate k.toNat ds).flatten) h := by
  constructor
  · rintro (⟨_, _, e, _⟩ | ⟨_, _, e, e2, q⟩)
    · cases e
    · cases e; cases e2; exact q
  · intro q
    exact .inr ⟨_, _, rfl, rfl, q⟩

@[simp] theorem mAppend_mk {a : Addr} {y : Dv} {h : Mh} {Q : Kd} : mAppend (.ref a) [y] h Q ↔ ∃ xs, h a = some (.lst xs) ∧ xs.length < sizeLine ∧ Q .non (mput h a (.lst (xs ++ [y]))) := by
  constructor
  · rintro ⟨_, xs, _, e, e2, e3, e5, q⟩
    cases e; cases e2
    exact ⟨xs, e3, e5, q⟩
  · rintro ⟨xs, e3, e5, q⟩
    exact ⟨_, xs, _, rfl, rfl, e3, e5, q⟩
theorem seqIx_ok {i : Int} {n : Nat} (h0 : 0 ≤ i) (h : i < n) : seqIndex? i n = some i.toNat := by
  unfold seqIndex?
  have h1 : ¬ i < 0 := by omega
  simp [h0, h, h1]
theorem mPopAt_ok {a : Addr} {i : Int} {xs : List Dv} {h : Mh} {Q : Kd} (e : h a = some (.lst xs)) (h0 : 0 ≤ i) (h1 : i < xs.length) (hz : xs.length < 2 ^ 62) (q : ∀ y, y ∈ xs → Q y (mput h a (.lst (xs.eraseIdx i.toNat)))) : mPopAt (.ref a) [.int i] h Q := by
  have hr : i.toNat < xs.length := by omega
  exact ⟨a, xs, i, _, xs[i.toNat], rfl, rfl, e, by omega, by omega, seqIx_ok h0 h1, List.getElem?_eq_getElem hr, q _ (List.getElem_mem hr)⟩

@[simp] theorem ggCons_cons {g : GG} {r : GGs} {d : Dv} {ds : List Dv} {ρ : Sl} {h : Mh} {Q : Sl → Mh → Prop} : ggCons g r (d :: ds) ρ h Q ↔ g d ρ h fun ρ1 h1 => r ds ρ1 h1 Q := ⟨fun ⟨_, _, e, q⟩ => by cases e; exact q, fun q => ⟨_, _, rfl, q⟩⟩
@[simp] theorem ggTup_tup {n : Nat} {r : GGs} {ds : List Dv} {ρ : Sl} {h : Mh} {Q : Sl → Mh → Prop} : ggTup n r (.tup ds) ρ h Q ↔ ds.length = n ∧ r ds ρ h Q := ⟨fun ⟨_, e, q⟩ => by cases e; exact q, fun q => ⟨_, rfl, q⟩⟩
@[simp] theorem ggTup_lst {n : Nat} {r : GGs} {ds : List Dv} {ρ : Sl} {h : Mh} {Q : Sl → Mh → Prop} : ggTup n r (.lst ds) ρ h Q ↔ ds.length = n ∧ r ds ρ h Q := ⟨fun ⟨_, e, q⟩ => by cases e; exact q, fun q => ⟨_, rfl, q⟩⟩

theorem pick_ix {xs : List Dv} {i : Int} {R : Dv → Prop} (P : Dv → Prop) (h0 : 0 ≤ i) (h1 : i < xs.length) (hp : ∀ x ∈ xs, P x) (k : ∀ d, P d → R d) : ∃ d, atI xs i = some d ∧ R d := by
  have hl : i.toNat < xs.length := by omega
  have e : ixN xs.length i = some i.toNat := by
    unfold ixN
    rw [if_pos h0, if_pos h1]
  refine ⟨xs[i.toNat], ?_, k _ (hp _ (List.getElem_mem hl))⟩
  unfold atI
  rw [e]
  exact List.getElem?_eq_getElem hl
theorem cutD_to {xs : List Dv} {k : Int} (h : 0 ≤ k) : cutD xs none (some k) = xs.take k.toNat := by
  unfold cutD HT.sIx
  have h1 : ¬ k < 0 := by omega
  simp only [h1, if_false, List.drop_zero, Nat.sub_zero]
  rw [List.take_eq_take_iff]
  omega
theorem cutD_from {xs : List Dv} {k : Int} (h : 0 ≤ k) : cutD xs (some k) none = xs.drop k.toNat := by
  unfold cutD HT.sIx
  have h1 : ¬ k < 0 := by omega
  simp only [h1, if_false]
  apply List.ext_getElem?
  intro i
  rw [List.getElem?_take, List.getElem?_drop, List.getElem?_drop]
  split
  · have : (min k.toNat xs.length : Nat) + i = k.toNat + i := by omega
    first | rw [this] | (congr 1; omega)
  · rw [List.getElem?_eq_none]
    omega

/-! ### loops, by what they keep -/
abbrev stepLc (gg : GG) (gt : GT) (ge : GE) (ρ : Sl) (d : Dv) (h : Mh) (Q : Kd) (R : Mh → Prop) : Prop := gg d ρ h fun ρ2 h2 => gt ρ2 h2 fun b h3 => if b = true then ge ρ2 h3 Q else R h3
/-- a comprehension of one thing for one thing, nothing changed -/
theorem wLc_map {vs : List Nat} {gg : GG} {gt : GT} {ge : GE} {ρ : Sl} {h : Mh} (f : Dv → Dv) {Q : List Dv → Mh → Prop} : ∀ (ds acc : List Dv), (∀ d ∈ ds, ∀ Q' R, Q' (f d) h → stepLc gg gt ge (wipD ρ vs) d h Q' R) → acc.length + ds.length ≤ sizeLine → Q (acc ++ ds.map f) h → wLc vs gg gt ge ρ ds acc h Q
  | [], acc, _, _, q => by simpa using q
  | d :: ds, acc, hs, hl, q => by
    refine hs d List.mem_cons_self _ _ ⟨by rw [List.length_cons] at hl; omega, wLc_map f ds (acc ++ [f d]) (fun e he => hs e (List.mem_cons_of_mem _ he)) (by rw [List.length_append, List.length_singleton]; rw [List.length_cons] at hl; omega) ?_⟩
    rw [List.map_cons] at q
    simpa using q
/-- .. some of them -/
theorem wLc_some {vs : List Nat} {gg : GG} {gt : GT} {ge : GE} {ρ : Sl} {h : Mh} (f : Dv → Option Dv) {Q : List Dv → Mh → Prop} : ∀ (ds acc : List Dv), (∀ d ∈ ds, ∀ Q' R, (match f d with | some y => Q' y h | none => R h) → stepLc gg gt ge (wipD ρ vs) d h Q' R) → acc.length + ds.length ≤ sizeLine → Q (acc ++ ds.filterMap f) h → wLc vs gg gt ge ρ ds acc h Q
  | [], acc, _, _, q => by simpa using q
  | d :: ds, acc, hs, hl, q => by
    rw [List.length_cons] at hl
    refine hs d List.mem_cons_self _ _ ?_
    cases e : f d with
    | some y =>
      rw [List.filterMap_cons, e] at q
      exact ⟨by omega, wLc_some f ds (acc ++ [y]) (fun e he => hs e (List.mem_cons_of_mem _ he)) (by rw [List.length_append, List.length_singleton]; omega) (by simpa using q)⟩
    | none =>
      rw [List.filterMap_cons, e] at q
      exact wLc_some f ds acc (fun e he => hs e (List.mem_cons_of_mem _ he)) (by omega) q
/-- one thing for one thing, the heap changes -/
theorem wLc_inv {vs : List Nat} {gg : GG} {gt : GT} {ge : GE} {ρ : Sl} (P : Dv → Prop) {Q : List Dv → Mh → Prop} : ∀ (ds acc : List Dv) (I : Nat → Mh → Prop) (h : Mh),
    (∀ i d h Q' R, I i h → ds[i]? = some d → (∀ y h', P y → I (i + 1) h' → Q' y h') → stepLc gg gt ge (wipD ρ vs) d h Q' R) → I 0 h → acc.length + ds.length ≤ sizeLine →
    (∀ ys h', ys.length = ds.length → (∀ y ∈ ys, P y) → I ds.length h' → Q (acc ++ ys) h') → wLc vs gg gt ge ρ ds acc h Q
  | [], acc, I, h, _, i0, _, q => by simpa using q [] h rfl (fun _ z => by cases z) i0
  | d :: ds, acc, I, h, hs, i0, hl, q => by
    rw [List.length_cons] at hl
    refine hs 0 d h _ _ i0 rfl fun y h' py i1 => ⟨by omega, wLc_inv P ds (acc ++ [y]) (fun i => I (i + 1)) h' (fun i d' h2 Q' R a b c => hs (i + 1) d' h2 Q' R a b c) i1 (by rw [List.length_append, List.length_singleton]; omega) fun ys h2 e al i2 => ?_⟩
    have := q (y :: ys) h2 (by rw [List.length_cons, List.length_cons, e]) (fun z hz => by
      rcases List.mem_cons.mp hz with hz | hz
      · subst hz; exact py
      · exact al z hz) i2
    simpa using this
/-- a loop that neither breaks nor returns -/
theorem wFor_inv {gg : GG} {b : GS} {E : En} : ∀ (ds : List Dv) (I : Nat → Sl → Mh → Prop) (ρ : Sl) (h : Mh),
    (∀ i d ρ h N, I i ρ h → ds[i]? = some d → (∀ ρ' h', I (i + 1) ρ' h' → N ρ' h') → gg d ρ h fun ρ1 h1 => b { E with nx := N, ct := N, bk := E.nx } ρ1 h1) → I 0 ρ h → (∀ ρ' h', I ds.length ρ' h' → E.nx ρ' h') → wFor gg b ds E ρ h
  | [], I, ρ, h, _, i0, q => q ρ h i0
  | d :: ds, I, ρ, h, hs, i0, q => hs 0 d ρ h (wFor gg b ds E) i0 rfl fun ρ' h' i1 => wFor_inv ds (fun i => I (i + 1)) ρ' h' (fun i d' ρ h N a c e => hs (i + 1) d' ρ h N a c e) i1 q

/-! ### one statement after the other -/
theorem seq_step {g1 g2 : GS} {E : En} {ρ : Sl} {h : Mh} (x : g1 { E with nx := g2 E } ρ h) : gSeq g1 g2 E ρ h := x
theorem seq_cut {g1 g2 : GS} {E : En} {ρ : Sl} {h : Mh} (I : Sl → Mh → Prop) (h1 : ∀ N, (∀ ρ' h', I ρ' h' → N ρ' h') → g1 { E with nx := N } ρ h) (h2 : ∀ ρ' h', I ρ' h' → g2 E ρ' h') : gSeq g1 g2 E ρ h := h1 _ h2

theorem atI_nat {α : Type} (xs : List α) (n : Nat) : atI xs (n : Int) = xs[n]? := by
  unfold atI ixN
  by_cases h : n < xs.length
  · have h1 : (0 : Int) ≤ n := by omega
    have h2 : (n : Int) < xs.length := by omega
    simp [h2]
  · have h2 : ¬ (n : Int) < xs.length := by omega
    simp [h2, List.getElem?_eq_none (Nat.not_lt.1 h)]
@[simp] theorem atI_lit {α : Type} (xs : List α) (n : Nat) : atI xs (no_index (OfNat.ofNat n : Int)) = xs[n]? := atI_nat xs n
@[simp] theorem atI_map {α β : Type} (f : α → β) (xs : List α) (i : Int) : atI (xs.map f) i = (atI xs i).map f := by
  unfold atI
  rw [List.length_map]
  cases ixN xs.length i <;> simp
theorem ixN_nat (m n : Nat) : ixN m (n : Int) = if n < m then some n else none := by
  unfold ixN
  by_cases h : n < m
  · have h2 : (n : Int) < m := by omega
    simp [h2, h]
  · have h2 : ¬ (n : Int) < m := by omega
    simp [h2, h]
@[simp] theorem ixN_lit (m n : Nat) : ixN m (no_index (OfNat.ofNat n : Int)) = if n < m then some n else none := ixN_nat m n
@[simp] theorem mput_same' {h : Mh} {a : Addr} {o : Mo} : mput h a o a = some o := mput_same
@[simp] theorem mput_mput' {h : Mh} {a : Addr} {o u : Mo} : mput (mput h a o) a u = mput h a u := mput_mput

/-! ### texts -/
theorem strIn_one (x : Str) (c : Nat) : strIn ⟨#[c]⟩ x = decide (c ∈ x.cps.toList) := StrLaws.found_one x c

/-- what is walked has a length and items -/
theorem walk_len {s : Dv} {es : List Dv} {h : Mh} {Q : Kd} (hw : walkOf s = some es) (hl : es.length ≤ sizeLine) (q : Q (.int es.length) h) : cLen [s] h Q := by
  cases s with
  | str z =>
    cases hw
    rw [List.length_map, Array.length_toList] at hl q
    exact ⟨_, rfl, .inl ⟨z, rfl, hl, q⟩⟩
  | tup ds => cases hw; exact ⟨_, rfl, .inr ⟨_, rfl, q⟩⟩
  | lst ds => cases hw; exact ⟨_, rfl, .inr ⟨_, rfl, q⟩⟩
  | _ => cases hw
theorem walk_ix {s d : Dv} {es : List Dv} {i : Int} {h : Mh} {Q : Kd} (hw : walkOf s = some es) (hl : es.length ≤ sizeLine) (hi : atI es i = some d) (q : Q d h) : rIxD s (.int i) h Q := by
  refine ⟨i, rfl, ?_⟩
  cases s with
  | str z =>
    cases hw
    rw [List.length_map, Array.length_toList] at hl
    rw [atI_map] at hi
    cases e : atI z.cps.toList i with
    | none => rw [e] at hi; cases hi
    | some c =>
      rw [e] at hi
      cases hi
      exact .inl ⟨z, c, rfl, hl, e, q⟩
  | tup ds => cases hw; exact .inr ⟨_, d, rfl, hi, q⟩
  | lst ds => cases hw; exact .inr ⟨_, d, rfl, hi, q⟩
  | _ => cases hw

/-- texts of small letters -/
def Wd1 (k : Nat) (z : Str) : Prop := z.length ≤ k ∧ ∀ c ∈ z.cps.toList, c < 128
theorem str_len (z : Str) : z.length = z.cps.toList.length := by simp [Str.length]
theorem str_append (x y : Str) : (x ++ y).cps.toList = x.cps.toList ++ y.cps.toList := by
  show (x.cps ++ y.cps).toList = _
  simp
theorem str_len_append (x y : Str) : (x ++ y).length = x.length + y.length := by rw [str_len, str_append, List.length_append, str_len, str_len]
theorem Wd1.mono {k m : Nat} {z : Str} (w : Wd1 k z) (h : k ≤ m) : Wd1 m z := ⟨Nat.le_trans w.1 h, w.2⟩
theorem Wd1.append {k m : Nat} {x y : Str} (a : Wd1 k x) (b : Wd1 m y) : Wd1 (k + m) (x ++ y) := by
  refine ⟨by rw [str_len_append]; have := a.1; have := b.1; omega, fun c hc => ?_⟩
  rw [str_append] at hc
  rcases List.mem_append.1 hc with h | h
  · exact a.2 c h
  · exact b.2 c h
theorem cutS_len (z : Str) (lo hi : Option Int) : (cutS z lo hi).length ≤ z.length := by
  rw [str_len, str_len]
  unfold cutS
  simp only [List.length_take, List.length_drop]
  omega
theorem cutS_mem {z : Str} {lo hi : Option Int} {c : Nat} (h : c ∈ (cutS z lo hi).cps.toList) : c ∈ z.cps.toList := by
  unfold cutS at h
  simp only at h
  exact List.mem_of_mem_drop (List.mem_of_mem_take h)
theorem Wd1.cut {k : Nat} {z : Str} (w : Wd1 k z) (lo hi : Option Int) : Wd1 k (cutS z lo hi) := ⟨Nat.le_trans (cutS_len z lo hi) w.1, fun c h => w.2 c (cutS_mem h)⟩
theorem Wd1.one {c : Nat} (h : c < 128) : Wd1 1 ⟨#[c]⟩ := ⟨Nat.le_refl _, fun d hd => by
  simp at hd
  rw [hd]; exact h⟩
theorem joins (sep : Str) (k : Nat) (hs : ∀ c ∈ sep.cps.toList, c < 128) : ∀ ys : List Str, (∀ y ∈ ys, Wd1 k y) → Wd1 (ys.length * (k + sep.length)) (Str.join sep ys)
  | [], _ => ⟨Nat.zero_le _, fun c h => by simp [Str.join, Str.empty] at h⟩
  | [x], h => (h x List.mem_cons_self).mono (by simp)
  | x :: y :: r, h => by
    have ih := joins sep k hs (y :: r) fun z hz => h z (List.mem_cons_of_mem _ hz)
    have hx := h x List.mem_cons_self
    refine Wd1.mono ((hx.append (m := sep.length) (y := sep) ⟨Nat.le_refl _, hs⟩).append ih) ?_
    simp only [List.length_cons, Nat.add_mul]
    omega
/-- texts out of the items of a walk -/
theorem strs_pick {es : List Dv} (P : Str → Prop) (he : ∀ e ∈ es, ∃ z, e = .str z ∧ P z) : ∀ {ys : List Dv}, (∀ y ∈ ys, y ∈ es) → ∃ zs : List Str, ys = zs.map Dv.str ∧ ∀ z ∈ zs, P z
  | [], _ => ⟨[], rfl, fun _ h => by cases h⟩
  | y :: ys, h => by
    obtain ⟨z, rfl, hz⟩ := he y (h y List.mem_cons_self)
    obtain ⟨zs, rfl, hzs⟩ := strs_pick P he fun y hy => h y (List.mem_cons_of_mem _ hy)
    refine ⟨z :: zs, rfl, fun x hx => ?_⟩
    rcases List.mem_cons.1 hx with e | e
    · subst e; exact hz
    · exact hzs x e
theorem walk_str {z : Str} : walkOf (.str z) = some (z.cps.toList.map fun c => .str ⟨#[c]⟩) := rfl
/-- all([p(x) for x in xs]) -/
theorem all_lc {vs : List Nat} {gg : GG} {gt : GT} {ge : GE} {ρ : Sl} {h : Mh} {Q : Kd} (p : Dv → Bool) {ds : List Dv} (hs : ∀ d ∈ ds, ∀ Q' R, Q' (.bl (p d)) h → stepLc gg gt ge (wipD ρ vs) d h Q' R) (hl : ds.length ≤ sizeLine) (q : Q (.bl (ds.all p)) h) :
    wLc vs gg gt ge ρ ds [] h (fun acc h2 => cAll [.lst acc] h2 Q) := by
  refine wLc_map (fun d => .bl (p d)) ds [] hs (by simpa using hl) ⟨.lst (ds.map fun d => .bl (p d)), ds.map p, by simp, by simp [lstOf], ?_⟩
  have e : ((ds.map p).all fun b => b) = ds.all p := by
    rw [List.all_map]
    rfl
  rw [e]
  exact q

/-! ### what may be shown -/
mutual
def smal : Dv → Bool
  | .int i => decide (i.natAbs.log2 < 150)
  | .str z => z.cps.toList.all fun c => decide (c < 16 ^ 8)
  | .tup ds => smals ds
  | .lst ds => smals ds
  | .non => true
  | .bl _ => true
  | .ref _ => false
  | .obj _ => false
  | .ty _ => false
def smals : List Dv → Bool
  | [] => true
  | d :: ds => smal d && smals ds
end
mutual
def wt : Dv → Nat
  | .int i => i.natAbs.log2 + 1
  | .str z => z.length
  | .tup ds => wts ds
  | .lst ds => wts ds
  | .non => 0
  | .bl _ => 0
  | .ref _ => 0
  | .obj _ => 0
  | .ty _ => 0
def wts : List Dv → Nat
  | [] => 0
  | d :: ds => wt d + 1 + wts ds
end
mutual
theorem smal_of : ∀ d : Dv, smal d = true → dat d = true ∧ (py d).showable = true ∧ (py d).leavesShort 151 = true ∧ (py d).weight ≤ wt d
  | .non, _ => ⟨rfl, rfl, rfl, Nat.le_refl _⟩
  | .bl _, _ => ⟨rfl, rfl, rfl, Nat.le_refl _⟩
  | .int i, h => by
    have h : i.natAbs.log2 < 150 := by simpa [smal] using h
    refine ⟨rfl, by simp [py, PyData.showable]; omega, ?_, ?_⟩
    · simp only [py, PyData.leavesShort, decide_eq_true_eq, PyData.shown]
      have e : (Str.ofString (toString i)).length ≤ 151 := by
        have e1 := int_text_length_le (a := i) (k := 150) (by decide) h
        rw [Str.ofString_eq_toList]
        simp only [Str.length, List.size_toArray, List.length_map]
        rw [String.length_toList]
        exact e1
      exact decide_eq_true e
    · simp only [py, PyData.weight, wt]
      split <;> omega
  | .str z, h => by
    refine ⟨rfl, rfl, by simpa [smal, py, PyData.leavesShort] using h, Nat.le_refl _⟩
  | .tup ds, h => by
    obtain ⟨a, b, c, d⟩ := smals_of ds (by simpa [smal] using h)
    exact ⟨by simpa [dat] using a, by simpa [py, PyData.showable] using b, by simpa [py, PyData.leavesShort] using c, by simpa [py, PyData.weight, wt] using d⟩
  | .lst ds, h => by
    obtain ⟨a, b, c, d⟩ := smals_of ds (by simpa [smal] using h)
    exact ⟨by simpa [dat] using a, by simpa [py, PyData.showable] using b, by simpa [py, PyData.leavesShort] using c, by simpa [py, PyData.weight, wt] using d⟩
  | .ref _, h => by simp [smal] at h
  | .obj _, h => by simp [smal] at h
  | .ty _, h => by simp [smal] at h
theorem smals_of : ∀ ds : List Dv, smals ds = true → dats ds = true ∧ PyData.showableAll (pys ds) = true ∧ PyData.leavesShortAll 151 (pys ds) = true ∧ PyData.weightAll (pys ds) ≤ wts ds
  | [], _ => ⟨rfl, rfl, rfl, Nat.le_refl _⟩
  | d :: ds, h => by
    simp only [smals, Bool.and_eq_true] at h
    obtain ⟨a, b, c, e⟩ := smal_of d h.1
    obtain ⟨a2, b2, c2, e2⟩ := smals_of ds h.2
    refine ⟨by simp [a, a2], by simp [pys, PyData.showableAll, b, b2], by simp [pys, PyData.leavesShortAll, c, c2], ?_⟩
    simp only [pys, PyData.weightAll, wts]
    omega
end
/-- shown, and not long -/
structure Nic (D W : Nat) (d : Dv) : Prop where
  sm : smal d = true
  dp : dep d ≤ D
  wt : wt d ≤ W
theorem Nic.mono {D W D' W' : Nat} {d : Dv} (n : Nic D W d) (h : D ≤ D') (h' : W ≤ W') : Nic D' W' d := ⟨n.sm, Nat.le_trans n.dp h, Nat.le_trans n.wt h'⟩
theorem Nic.okE {D W : Nat} {d : Dv} (n : Nic D W d) (h : D ≤ 60) : okE d := ⟨(smal_of d n.sm).1, Nat.le_trans n.dp h⟩
theorem Nic.okR {D W : Nat} {d : Dv} (n : Nic D W d) (h : D ≤ 60) (hW : W ≤ 100000) : okR d := by
  obtain ⟨a, b, c, e⟩ := smal_of d n.sm
  refine ⟨a, Nat.le_trans n.dp h, b, ?_⟩
  have := PyData.shown_le 151 (by decide) (py d) c
  have e2 := n.wt
  have e3 : sizeLine = 16777216 := by decide
  unfold shw
  omega
theorem nic_bl (b : Bool) : Nic 0 0 (.bl b) := ⟨rfl, Nat.le_refl _, Nat.le_refl _⟩
theorem nic_non : Nic 0 0 .non := ⟨rfl, Nat.le_refl _, Nat.le_refl _⟩
theorem nic_str {k : Nat} {z : Str} (w : Wd1 k z) : Nic 0 k (.str z) := ⟨by
  simp only [smal, List.all_eq_true, decide_eq_true_eq]
  intro c hc
  have := w.2 c hc
  have e : (16 : Nat) ^ 8 = 4294967296 := by decide
  omega, Nat.le_refl _, w.1⟩
theorem nics {D W : Nat} : ∀ {ds : List Dv}, (∀ d ∈ ds, Nic D W d) → smals ds = true ∧ deps ds ≤ D ∧ wts ds ≤ ds.length * (W + 1)
  | [], _ => ⟨rfl, Nat.zero_le _, Nat.zero_le _⟩
  | d :: ds, h => by
    obtain ⟨a, b, c⟩ := nics fun e he => h e (List.mem_cons_of_mem _ he)
    have n := h d List.mem_cons_self
    have n1 := n.dp
    have n2 := n.wt
    refine ⟨by simp [smals, n.sm, a], by simp only [deps]; omega, ?_⟩
    simp only [wts, List.length_cons, Nat.add_mul]
    omega
theorem nic_tup {D W : Nat} {ds : List Dv} (h : ∀ d ∈ ds, Nic D W d) : Nic (D + 1) (ds.length * (W + 1)) (.tup ds) := let ⟨a, b, c⟩ := nics h; ⟨a, Nat.succ_le_succ b, c⟩
theorem nic_lst {D W : Nat} {ds : List Dv} (h : ∀ d ∈ ds, Nic D W d) : Nic (D + 1) (ds.length * (W + 1)) (.lst ds) := let ⟨a, b, c⟩ := nics h; ⟨a, Nat.succ_le_succ b, c⟩
mutual
theorem deq_refl : ∀ d : Dv, dat d = true → deq d d = true
  | .non, _ => rfl
  | .bl b, _ => by simp
  | .int i, _ => by simp
  | .str z, _ => by simp
  | .tup ds, h => by simpa using deqs_refl ds (by simpa [dat] using h)
  | .lst ds, h => by simpa using deqs_refl ds (by simpa [dat] using h)
  | .ref _, h => by simp [dat] at h
  | .obj _, h => by simp [dat] at h
  | .ty _, h => by simp [dat] at h
theorem deqs_refl : ∀ ds : List Dv, dats ds = true → deqs ds ds = true
  | [], _ => rfl
  | d :: ds, h => by
    simp only [dats, Bool.and_eq_true] at h
    simp [deq_refl d h.1, deqs_refl ds h.2]
end

theorem smals_mem : ∀ {ds : List Dv}, smals ds = true → ∀ d ∈ ds, smal d = true
  | e :: ds, h, d, hd => by
    simp only [smals, Bool.and_eq_true] at h
    rcases List.mem_cons.1 hd with q | q
    · subst q; exact h.1
    · exact smals_mem h.2 d q
theorem deps_mem : ∀ {ds : List Dv}, ∀ d ∈ ds, dep d ≤ deps ds
  | e :: ds, d, hd => by
    simp only [deps]
    rcases List.mem_cons.1 hd with q | q
    · subst q; omega
    · have := deps_mem d q; omega
theorem wts_mem : ∀ {ds : List Dv}, ∀ d ∈ ds, wt d ≤ wts ds
  | e :: ds, d, hd => by
    simp only [wts]
    rcases List.mem_cons.1 hd with q | q
    · subst q; omega
    · have := wts_mem d q; omega
theorem Nic.tup {D W : Nat} {ds : List Dv} (n : Nic D W (.tup ds)) : ∀ d ∈ ds, Nic D W d := fun d hd => ⟨smals_mem n.sm d hd, by have := deps_mem d hd; have := n.dp; simp only [dep] at this; omega, by have := wts_mem d hd; have := n.wt; simp only [G3.wt] at this; omega⟩
theorem Nic.lst {D W : Nat} {ds : List Dv} (n : Nic D W (.lst ds)) : ∀ d ∈ ds, Nic D W d := fun d hd => ⟨smals_mem n.sm d hd, by have := deps_mem d hd; have := n.dp; simp only [dep] at this; omega, by have := wts_mem d hd; have := n.wt; simp only [G3.wt] at this; omega⟩
theorem nic_tup' {D W m : Nat} {ds : List Dv} (h : ∀ d ∈ ds, Nic D W d) (hm : ds.length ≤ m) : Nic (D + 1) (m * (W + 1)) (.tup ds) := (nic_tup h).mono (Nat.le_refl _) (Nat.mul_le_mul_right _ hm)
theorem nic_lst' {D W m : Nat} {ds : List Dv} (h : ∀ d ∈ ds, Nic D W d) (hm : ds.length ≤ m) : Nic (D + 1) (m * (W + 1)) (.lst ds) := (nic_lst h).mono (Nat.le_refl _) (Nat.mul_le_mul_right _ hm)
theorem nic_int {i : Int} (h : i.natAbs.log2 < 150) : Nic 0 150 (.int i) := ⟨by simpa [smal] using h, Nat.le_refl _, h⟩
theorem nic_intB {i : Int} {k : Nat} (h : i.natAbs < 2 ^ k) (hk : k ≤ 150) : Nic 0 (k + 1) (.int i) := by
  have hl : i.natAbs.log2 ≤ k := by
    by_cases z : i.natAbs = 0
    · rw [z]; simp
    · exact Nat.le_of_lt ((Nat.log2_lt z).2 h)
  by_cases e : i.natAbs.log2 < 150
  · exact ⟨by simpa [smal] using e, Nat.le_refl _, Nat.succ_le_succ hl⟩
  · by_cases z : i.natAbs = 0
    · rw [z] at e; simp at e
    · have := (Nat.log2_lt z).2 h
      omega
theorem Nic.ty {D W : Nat} {d : Dv} (n : Nic D W d) (h : Mh) : ∃ t, tyOf h d = some t := by
  have := n.sm
  cases d with
  | ref a => simp [smal] at this
  | obj a => simp [smal] at this
  | ty a => simp [smal] at this
  | _ => exact ⟨_, rfl⟩
theorem Nic.sz {D W : Nat} {d : Dv} (n : Nic D W d) (hW : W ≤ 100000) : ∀ z, d = .str z → z.length ≤ sizeLine := by
  rintro z rfl
  have := n.wt
  simp only [G3.wt] at this
  have e3 : sizeLine = 16777216 := by decide
  omega
theorem atI_pick {α : Type} {xs : List α} {i : Int} (P : α → Prop) (h0 : 0 ≤ i) (h : i < xs.length) (hp : ∀ x ∈ xs, P x) : ∃ x, atI xs i = some x ∧ P x := by
  have e : ixN xs.length i = some i.toNat := by
    unfold ixN
    split <;> simp_all <;> omega
  have hl : i.toNat < xs.length := by omega
  refine ⟨xs[i.toNat], ?_, hp _ (List.getElem_mem hl)⟩
  unfold atI
  rw [e]
  exact List.getElem?_eq_getElem hl
theorem cutD_mem {xs : List Dv} {lo hi : Option Int} {d : Dv} (h : d ∈ cutD xs lo hi) : d ∈ xs := by
  unfold cutD at h
  exact List.mem_of_mem_drop (List.mem_of_mem_take h)
theorem cutD_len (xs : List Dv) (lo hi : Option Int) : (cutD xs lo hi).length ≤ xs.length := by
  unfold cutD
  simp only [List.length_take, List.length_drop]
  omega
theorem rng_len (lo : Int) (n : Nat) : (rng lo n).length = n := by simp [rng]
theorem rng_get {lo : Int} {n i : Nat} {d : Dv} (h : (rng lo n)[i]? = some d) : i < n ∧ d = .int (lo + (i : Nat)) := by
  have hi : i < n := by
    have := (List.getElem?_eq_some_iff.1 h).1
    rwa [rng_len] at this
  unfold rng at h
  rw [List.getElem?_map, List.getElem?_range hi] at h
  cases h
  exact ⟨hi, rfl⟩

/-! ### a script's feed -/
def Feed (h : Mh) (a : Addr) (n : Nat) : Prop := ∃ (cells : List Int) (at_ left : Int), h a = some (.lst [.lst (cells.map Dv.int), .int at_, .int left]) ∧ 0 ≤ at_ ∧ at_ ≤ n ∧ cells.length ≤ 60
theorem Feed.mono {h : Mh} {a : Addr} {n m : Nat} (f : Feed h a n) (l : n ≤ m) : Feed h a m := let ⟨c, x, y, e, p, q, l⟩ := f; ⟨c, x, y, e, p, by omega, l⟩
theorem Feed.put {h : Mh} {a b : Addr} {n : Nat} {o : Mo} (f : Feed h a n) (ne : a ≠ b) : Feed (mput h b o) a n := let ⟨c, x, y, e, p, q⟩ := f; ⟨c, x, y, (by rw [mput_ne ne]; exact e), p, q⟩
/-- what stood stands, but a -/
def Kp (a : Addr) (h h' : Mh) : Prop := ∀ b m, b ≠ a → h b = some m → h' b = some m
theorem Kp.refl (a : Addr) (h : Mh) : Kp a h h := fun _ _ _ e => e
theorem Kp.trans {a : Addr} {h h1 h2 : Mh} (x : Kp a h h1) (y : Kp a h1 h2) : Kp a h h2 := fun b m n e => y b m n (x b m n e)
theorem Kp.put (a : Addr) (h : Mh) (o : Mo) : Kp a h (mput h a o) := fun b m n e => by rw [mput_ne n]; exact e
theorem Kp.new {a p : Addr} {h h' : Mh} (e : h p = none) (o : Mo) (k : Kp a h h') : Kp a h (mput h' p o) := fun b m n e2 => by
  by_cases z : b = p
  · rw [z, e] at e2; cases e2
  · rw [mput_ne z]; exact k b m n e2
theorem Kp.del {a p : Addr} {h : Mh} {h' : Mh} (e : h p = none) (k : Kp a h h') : Kp a h (mdel h' p) := fun b m n e2 => by
  by_cases z : b = p
  · rw [z, e] at e2; cases e2
  · rw [mdel_ne z]; exact k b m n e2
theorem Feed.del {h : Mh} {a p : Addr} {n : Nat} (f : Feed h a n) (ne : a ≠ p) : Feed (mdel h p) a n := let ⟨c, x, y, e, q⟩ := f; ⟨c, x, y, (by rw [mdel_ne ne]; exact e), q⟩
theorem Feed.ne {h : Mh} {a p : Addr} {n : Nat} (f : Feed h a n) (e : h p = none) : p ≠ a := fun z => by
  obtain ⟨_, _, _, e2, _⟩ := f
  rw [z, e2] at e; cases e
/-- only a has changed -/
def Off (a : Addr) (h h' : Mh) : Prop := ∀ p, p ≠ a → h' p = h p
theorem Off.refl (a : Addr) (h : Mh) : Off a h h := fun _ _ => rfl
theorem Off.trans {a : Addr} {h h1 h2 : Mh} (x : Off a h h1) (y : Off a h1 h2) : Off a h h2 := fun p n => (y p n).trans (x p n)
theorem Off.put (a : Addr) (h : Mh) (o : Mo) : Off a h (mput h a o) := fun _ n => mput_ne n
theorem dats_ints : ∀ xs : List Int, dats (xs.map Dv.int) = true
  | [] => rfl
  | x :: xs => by simp [dats_ints xs]
theorem deps_ints : ∀ xs : List Int, deps (xs.map Dv.int) = 0
  | [] => rfl
  | x :: xs => by simp [deps_ints xs]
@[simp] theorem dats_strs : ∀ xs : List Str, dats (xs.map Dv.str) = true
  | [] => rfl
  | x :: xs => by simp [dats_strs xs]
@[simp] theorem deps_strs : ∀ xs : List Str, deps (xs.map Dv.str) = 0
  | [] => rfl
  | x :: xs => by simp [deps_strs xs]
theorem atI_ok {α : Type} {xs : List α} {i : Int} (h0 : 0 ≤ i) (h : i < xs.length) : ∃ x, atI xs i = some x ∧ x ∈ xs := by
  have e : ixN xs.length i = some i.toNat := by
    unfold ixN
    split <;> simp_all <;> omega
  have hl : i.toNat < xs.length := by omega
  refine ⟨xs[i.toNat], ?_, List.getElem_mem hl⟩
  unfold atI
  rw [e]
  exact List.getElem?_eq_getElem hl
end G3


namespace G3
open PySem PySem.Spec PyProof.Rows L2
/-! ### enumerate(tuple) -/
theorem meets_enumT (l : Addr) (items : Array Value) :
    Meets (Builtin.«enumerate.__new__» ⟨[.type "enumerate", .ref l], []⟩) (fun _ R s => s.heap.IsTuple l items ∧
      R (.ok (.ret (.ref (s.heap.push { cls := .type "tuple_iterator", data := .fields #[.ref l, .int 0 0] }).objs.size)))
        { s with heap := (s.heap.push { cls := .type "tuple_iterator", data := .fields #[.ref l, .int 0 0] }).push { cls := .type "enumerate", data := .fields #[.none, .bool false, .ref s.heap.objs.size, rawInt 0, .none, .none] } }) :=
  .of_wp fun prog w A R s h => by
    obtain ⟨hp, g, d, tk, os⟩ := s
    obtain ⟨hl, h⟩ := h
    have hsub := sub_enumerate
    have hL : Heap.IsTuple (Shared.heap ⟨hp, g, d, tk, os⟩) l items := hl
    wp_walk using wpAny_pyIter_tuple hL
    refine wpAny_stack_any fun st => wpAny_pure ?_
    split
    · rename_i c _ _ _ _ _
      cases (c == Value.type "enumerate")
      · wp_walk using wpAny_pyIter_tuple hL
        exact ⟨_, rfl, h⟩
      · wp_walk using wpAny_pyIter_tuple hL
        exact ⟨_, rfl, h⟩
    · wp_walk using wpAny_pyIter_tuple hL
      exact ⟨_, rfl, h⟩
section
variable {prog : Program} {w : World} {A : Around} {E : Value → Shared → Prop} {s : Shared}
theorem call_enumT {l : Addr} {items : Array Value} {Q : Value → Shared → Prop} (hL : s.heap.IsTuple l items)
    (h : ∀ h', IsEnum h' (s.heap.objs.size + 1) s.heap.objs.size 0 .none → h'.IsTupleIter s.heap.objs.size l 0 → h'.objs.size = s.heap.objs.size + 2 →
      (∀ b o, s.heap.get? b = some o → h'.get? b = some o) → Q (.ref (s.heap.objs.size + 1)) { s with heap := h' }) :
    wpAny (model prog w) A (call (.type "enumerate") [.ref l]) Q E s := by
  refine callType_new F.called_enumerate (by decide) (F.typeCall_enumerate_1 _) (F.newCall_enumerate_1 _) (fun obj => F.args_object_init_2 obj _) F.entry_enumerate_new
    (meets_enumT l items) ⟨hL, ?_⟩
  have hz : (s.heap.push { cls := .type "tuple_iterator", data := .fields #[.ref l, .int 0 0] }).objs.size = s.heap.objs.size + 1 := Heap.size_push ..
  show _ ∧ _
  rw [hz]
  have he : IsEnum ((s.heap.push { cls := .type "tuple_iterator", data := .fields #[.ref l, .int 0 0] }).push
      { cls := .type "enumerate", data := .fields #[.none, .bool false, .ref s.heap.objs.size, rawInt 0, .none, .none] }) (s.heap.objs.size + 1) s.heap.objs.size 0 .none := by
    have := Heap.get?_push_size (s.heap.push { cls := .type "tuple_iterator", data := .fields #[.ref l, .int 0 0] })
      (o := { cls := .type "enumerate", data := .fields #[.none, .bool false, .ref s.heap.objs.size, rawInt 0, .none, .none] }) rfl
    rw [hz] at this; exact this
  refine ⟨⟨_, he, rfl⟩, h _ he ⟨_, Heap.get?_push_of_some _ (Heap.get?_push_size _ rfl), rfl, rfl⟩ (by rw [Heap.size_push, hz]) fun b o x => Heap.get?_push_of_some _ (Heap.get?_push_of_some _ x)⟩
end
section
variable {prog : Program} {w : World} {A : Around} {E : Value → Shared → Prop} {s : Shared}
theorem next_enumT_end {e it l : Addr} {i : Nat} {c : Int} {items : Array Value} {old : Value} {Q : Option Value → Shared → Prop} (hh : A.handled = none) (he : IsEnum s.heap e it c old) (hit : s.heap.IsTupleIter it l i) (hl : s.heap.IsTuple l items) (hx : items[i]? = none)
    (hQ : ∀ h', Heap.ExtBut it s.heap h' → Q none { s with heap := h' }) : wpAny (model prog w) A (pyNext (.ref e)) Q E s := by
  have hT : s.TypeIs (.ref e) "enumerate" := ⟨_, he, rfl⟩
  unfold pyNext
  refine wpAny_bind (wpAny_attempt (wpAny_callSpecial?_slot (name := Str.ofString "__next__") hT F.slot_enumerate_next
    (wpAny_call_entry F.slot_enumerate_next hT F.entry_enumerate_next ?_ (F.args_enumerate_next_1 _))))
  show wpAny _ _ (field (.ref e) 2 >>= _) _ _ _
  refine wpAny_bind (wpAny_field he rfl (x := .ref it) rfl ?_)
  refine wpAny_bind (wpAny_nextOf_tuple_end hh hit hl hx fun h' x he' hx' => ?_)
  obtain ⟨o, ho, hc⟩ := hx'
  refine wpAny_bind (wpAny_isInstance (T := "StopIteration") (b := true) ⟨o, ho, hc⟩ isSubtype_stop ?_)
  exact wpAny_pure (hQ _ he')
end
/-- the tuple at a as it stands at each turn, each item in a new pair -/
def IteT (K : PySem.W.Frag) (a : Addr) : It :=
  ⟨fun i H => ∃ (xs : List V) (x : V), SqT K H a xs ∧ xs[i]? = some x, fun i H v H' => ∃ T x, v = .ref T ∧ H T = none ∧ H' = upd H T (.tup [.int (i : Nat), x]) ∧ ∀ xs, SqT K H a xs → xs[i]? = some x, fun i H => ∃ xs : List V, SqT K H a xs ∧ xs.length ≤ i⟩
theorem turn_enumT {P : Program} {w : World} {K : PySem.W.Frag} {elts : List Expr} {kk : Nat} {tpos : Pos} (a e it : Addr) :
    Turn P w K (.Tuple elts kk tpos) (IteT K a) [e, it] e (fun i h => (∃ old, IsEnum h e it ((i : Nat) : Int) old) ∧ h.IsTupleIter it a i ∧ e ≠ it ∧ e ≠ a ∧ a ≠ it) where
  mem := by simp
  obj := fun i h st b hb => by
    obtain ⟨⟨old, he⟩, ⟨o, ho, hc, hd⟩, _⟩ := st
    have e' : b = e ∨ b = it := by simpa using hb
    rcases e' with z | z
    · rw [z]; exact ⟨_, he, fun v q => nomatch q⟩
    · rw [z]; exact ⟨o, ho, fun v q => by rw [hd] at q; cases q⟩
  keep := fun i h h' st k => let ⟨⟨old, he⟩, hi, hne⟩ := st; ⟨⟨old, k e (by simp) _ he⟩, hi.at fun o q => k it (by simp) o q, hne⟩
  item := by
    intro X hP hw hK hc i pins s σ H E I hf st hg
    subst hP hw hK
    obtain ⟨⟨old, he⟩, hit, hne, hea, hai⟩ := st
    obtain ⟨xs, x, hq, hx⟩ := hg
    obtain ⟨its, rv, p, hz⟩ := I.tuple hq
    obtain ⟨u, hu, ru⟩ := rv.get hx
    have hel : e < s.heap.objs.size := Heap.lt_size he
    have hil : it < s.heap.objs.size := by obtain ⟨_, q, _⟩ := hit; exact Heap.lt_size q
    have hlt : i < its.toArray.size := by
      rw [List.size_toArray, ← rv.length]
      exact (List.getElem?_eq_some_iff.1 hx).1
    refine wpAny_pyNext_enum_itemD (Draws.tuple (A := X.A.in1) (I.ok.hd hc) it a hai its.toArray) he ⟨hit, p⟩ hlt hne (by simp [hne, hea]) fun x' h' tk hx' ho st' hT hsz hk => ?_
    have eu : x' = u := by
      have : its.toArray[i]? = some u := by simpa using hu
      rw [this] at hx'
      exact (Option.some.inj hx').symm
    subst eu
    refine ⟨_, rfl, wpAny_letOwnedTupleGo_enum (s := { s with heap := h', toks := tk + 1 }) ho fun h'' he' sb => ?_⟩
    have hT2 : h''.get? s.heap.objs.size = some { cls := .type "tuple", data := .seq #[.int i tk, x'] } := (sb.2 _ (Nat.ne_of_gt hel)).trans hT
    have new : ObjOk X.prog X.w (upd H s.heap.objs.size (.tup [.int (i : Nat), x])) h'' s.heap.objs.size (.tup [.int (i : Nat), x]) :=
      ⟨by show 2 ≤ sizeLine; decide, [.int i tk, x'], .cons ⟨_, rfl⟩ (.cons ru .nil), ⟨_, hT2, rfl, _, rfl⟩⟩
    have I1 : Inv X pins σ (upd H s.heap.objs.size (.tup [.int (i : Nat), x])) { s with heap := h'', toks := tk + 1 } :=
      I.turnedNew (ch := [e, it]) (fun b ob hb q => (sb.2 b (fun z => hb (by simp [z]))).trans (hk b ob (fun z => hb (by simp [z])) (fun z => hb (by simp [z])) q)) hf (Nat.le_refl _) new
    refine ⟨.ref s.heap.objs.size, _, I1, rfl, ⟨_, x, rfl, I.hok.fresh (Nat.le_refl _), rfl, fun ys hy => by rw [I.tuple_inj hy hq]; exact hx⟩, ⟨⟨x', ?_⟩, st'.1.at fun o q => (sb.2 it (Ne.symm hne)).trans q, hne, hea, hai⟩, fun b hb => ?_⟩
    · have e1 : ((i + 1 : Nat) : Int) = (i : Int) + 1 := by omega
      rw [e1]; exact he'
    · have hb' : b < s.heap.objs.size := by
        have e' : b = e ∨ b = it := by simpa using hb
        rcases e' with z | z
        · rw [z]; exact hel
        · rw [z]; exact hil
      rw [upd_ne (Nat.ne_of_lt hb')]
      exact (hf b hb).1
  done := by
    intro X hP hw hK hc i pins s σ H E I hf st hg
    subst hP hw hK
    obtain ⟨⟨old, he⟩, hit, hne, hea, hai⟩ := st
    obtain ⟨xs, hq, hx⟩ := hg
    obtain ⟨its, rv, p, hz⟩ := I.tuple hq
    obtain ⟨f0, f1, f2, f3, f4, f5⟩ := hf it (by simp)
    have hl := rv.length
    exact next_enumT_end (I.ok.hd hc) he hit p (by simp; omega) fun h' eb => ⟨rfl, I.turned (t' := s.toks) (fun b o hb q => eb b o hb q) f0 f1 f3 f4 f5⟩
  self := fun A i s Q E st h => let ⟨⟨_, he⟩, _⟩ := st; wpAny_pyIter_enum he h

/-- enumerate of a list or a tuple -/
def iEnumA (K : PySem.W.Frag) (ta : TA) : TI := fun σ H R => ta σ H fun vs H1 => (∃ a xs, vs = [.ref a] ∧ SqL K H1 a xs ∧ R (Ite K a) H1) ∨ ∃ a xs, vs = [.ref a] ∧ SqT K H1 a xs ∧ R (IteT K a) H1
theorem pi_enumA {X : Cx} {e : Expr} {ta : TA} {p pos tpos : Pos} {elts : List Expr} {kk : Nat} (hg : Gl X "enumerate") (hm : X.mg "enumerate" = none) (ha : PA X [e] ta) (hs : starEach [e] X.env = [(false, eval e X.env)] := by rfl) :
    PI X (.Tuple elts kk tpos) (.Call (.Name "enumerate" p) [e] [] pos) (iEnumA X.K ta) := by
  refine ⟨fun pins s σ H R I h => ?_⟩
  refine Call_ (ld_blt I hg hm boot_enumerate (PyProof.Rows.callWith_type1 (thn (ha.run pos pins s σ H _ I h) fun us s1 ⟨vs, H1, I1, r1, q1⟩ => ?_) hs rfl))
  have foot : ∀ b, b ∈ [s1.heap.objs.size + 1, s1.heap.objs.size] → s1.heap.objs.size ≤ b := fun b hb => by
    have e' : b = s1.heap.objs.size + 1 ∨ b = s1.heap.objs.size := by simpa using hb
    rcases e' with z | z
    · rw [z]; exact Nat.le_add_right _ _
    · rw [z]; exact Nat.le_refl _
  rcases q1 with ⟨a, xs, ex, hq, q⟩ | ⟨a, xs, ex, hq, q⟩
  · subst ex
    cases r1 with
    | cons r rr =>
      cases rr
      cases r
      obtain ⟨its, rv, p', hz⟩ := I1.list hq
      refine call_enumerate_list p'.isList fun h' he hit hsz hk => wpAny_pyIter_enum he ?_
      have I2 : Inv X pins σ H1 { s1 with heap := h' } := I1.kept (t' := s1.toks) hk
      exact ⟨s1.heap.objs.size + 1, [s1.heap.objs.size + 1, s1.heap.objs.size], _, _, H1, rfl, I2, turn_enum a (s1.heap.objs.size + 1) s1.heap.objs.size, ⟨⟨.none, he⟩, hit, Nat.succ_ne_self _⟩, fun b hb => I1.fpOk (foot b hb) (I1.hok.fresh (foot b hb)), q⟩
  · subst ex
    cases r1 with
    | cons r rr =>
      cases rr
      cases r
      obtain ⟨its, rv, p', hz⟩ := I1.tuple hq
      have hal : a < s1.heap.objs.size := by obtain ⟨_, e, _⟩ := id p'; exact Heap.lt_size e
      have n1 : s1.heap.objs.size + 1 ≠ a := fun z => by have z : s1.heap.objs.size + 1 = a := z; have hal : a < s1.heap.objs.size := hal; exact absurd hal (by rw [← z]; exact Nat.not_lt.2 (Nat.le_succ _))
      have n2 : a ≠ s1.heap.objs.size := fun z => by have hal : a < s1.heap.objs.size := hal; exact Nat.lt_irrefl _ (z ▸ hal)
      refine call_enumT (show s1.heap.IsTuple a its.toArray from p') fun h' he hit hsz hk => wpAny_pyIter_enum he ?_
      have I2 : Inv X pins σ H1 { s1 with heap := h' } := I1.kept (t' := s1.toks) hk
      exact ⟨s1.heap.objs.size + 1, [s1.heap.objs.size + 1, s1.heap.objs.size], _, _, H1, rfl, I2, turn_enumT a (s1.heap.objs.size + 1) s1.heap.objs.size,
        ⟨⟨.none, he⟩, hit, Nat.succ_ne_self _, n1, n2⟩, fun b hb => I1.fpOk (foot b hb) (I1.hok.fresh (foot b hb)), q⟩
def numd : Nat → List Dv → List Dv
  | _, [] => []
  | i, d :: ds => .tup [.int i, d] :: numd (i + 1) ds
theorem numd_len : ∀ (i : Nat) (ds : List Dv), (numd i ds).length = ds.length
  | _, [] => rfl
  | i, d :: ds => by rw [numd, List.length_cons, List.length_cons, numd_len]
theorem numd_get : ∀ (ds : List Dv) (i k : Nat), (numd i ds)[k]? = (ds[k]?).map fun d => .tup [.int ((i + k : Nat) : Int), d]
  | [], i, k => by simp [numd]
  | d :: ds, i, 0 => by simp [numd]
  | d :: ds, i, k + 1 => by
    rw [numd, List.getElem?_cons_succ, List.getElem?_cons_succ, numd_get ds (i + 1) k]
    have : i + 1 + k = i + (k + 1) := by omega
    rw [this]
/-- what enumerate walks -/
def enumOf : Dv → Option (List Dv)
  | .lst ds => some ds
  | .tup ds => some ds
  | _ => none
@[simp] theorem enumOf_lst {ds : List Dv} : enumOf (.lst ds) = some ds := rfl
@[simp] theorem enumOf_tup {ds : List Dv} : enumOf (.tup ds) = some ds := rfl
@[simp] def gEnum (gs : GA) : GI := fun ρ h R => gs ρ h fun es h1 => ∃ d ds, es = [d] ∧ enumOf d = some ds ∧ R (numd 0 ds) h1
theorem enum_yld {K : PySem.W.Frag} {w' : Wd} {i : Nat} {y : V} {T : Addr} {ds : List Dv} {d e : Dv} (r' : Rel K w') (hT : w'.H T = none) (hd : (numd 0 ds)[i]? = some d) (he : ds[i]? = some e) (re : Rp K w' e y) :
    ∃ w'' : Wd, w''.H = upd w'.H T (.tup [.int (i : Nat), y]) ∧ w''.h = w'.h ∧ Rel K w'' ∧ Ext w' w'' ∧ Rp K w'' d (.ref T) := by
  rw [numd_get, he] at hd
  cases hd
  obtain ⟨r2, e2, p2⟩ := new_tup (p := T) r' (.cons (.int (i : Int)) (.cons re .nil)) hT
  have ei : ((0 + i : Nat) : Int) = (i : Int) := by omega
  rw [ei]
  exact ⟨⟨w'.h, upd w'.G T (.tup [.int (i : Int), y]), upd w'.H T (.tup [.int (i : Int), y])⟩, rfl, rfl, r2, e2, p2⟩
theorem i_enum {X : Cx} {es : List Expr} {kk : Nat} {a : Expr} {p pos tpos : Pos} {gs : GA} (hg : Gl X "enumerate") (hm : X.mg "enumerate" = none) (ha : A3 X [a] gs) (hs : starEach [a] X.env = [(false, eval a X.env)] := by rfl) :
    I3 X (.Tuple es kk tpos) (.Call (.Name "enumerate" p) [a] [] pos) (gEnum gs) := PIimp (pi_enumA hg hm ha hs) fun σ H R ⟨ρ, w, R3, e, gd, q, out⟩ => by
  subst e
  refine ⟨ρ, w, _, rfl, gd, q, fun ds w1 vs ⟨d, fs, e2, hw, q1⟩ r1 e1 p1 => ?_⟩
  subst e2
  obtain ⟨x, e3, px⟩ := p1.one
  subst e3
  have lenN := numd_len 0 fs
  cases px with
  | lst t ra =>
    cases hw
    refine .inl ⟨_, _, rfl, r1.sqL t, out _ w1 _ q1 r1 e1 ⟨fun i w' e' r' hi => ?_, fun i w' x H'' e' r' ⟨T, y, ev, hT, eH, hx⟩ d hd => ?_, fun w' e' r' => ?_⟩⟩
    · rw [lenN] at hi
      exact ⟨_, _, r'.sqL (t.ext e'.fz), List.getElem?_eq_getElem (by rw [← ra.length]; exact hi)⟩
    · subst ev eH
      have hy := hx _ (r'.sqL (t.ext e'.fz))
      obtain ⟨e, he, re⟩ := ra.get hy
      exact enum_yld r' hT hd he (re.ext e')
    · exact ⟨_, r'.sqL (t.ext e'.fz), by rw [lenN, ra.length]; exact Nat.le_refl _⟩
  | tup t ra =>
    cases hw
    refine .inr ⟨_, _, rfl, r1.sqT t, out _ w1 _ q1 r1 e1 ⟨fun i w' e' r' hi => ?_, fun i w' x H'' e' r' ⟨T, y, ev, hT, eH, hx⟩ d hd => ?_, fun w' e' r' => ?_⟩⟩
    · rw [lenN] at hi
      exact ⟨_, _, r'.sqT (t.ext e'.fz), List.getElem?_eq_getElem (by rw [← ra.length]; exact hi)⟩
    · subst ev eH
      have hy := hx _ (r'.sqT (t.ext e'.fz))
      obtain ⟨e, he, re⟩ := ra.get hy
      exact enum_yld r' hT hd he (re.ext e')
    · exact ⟨_, r'.sqT (t.ext e'.fz), by rw [lenN, ra.length]; exact Nat.le_refl _⟩
  | _ => cases hw
/-! ### min, max, -i, extend -/
def cMin : DC := fun ds h Q => ∃ i j, ds = [.int i, .int j] ∧ Q (.int (if j < i then j else i)) h
def cMax : DC := fun ds h Q => ∃ i j, ds = [.int i, .int j] ∧ Q (.int (if j > i then j else i)) h
@[simp] theorem cMin_mk {i j : Int} {h : Mh} {Q : Kd} : cMin [.int i, .int j] h Q ↔ Q (.int (if j < i then j else i)) h := ⟨fun ⟨_, _, e, q⟩ => by cases e; exact q, fun q => ⟨_, _, rfl, q⟩⟩
@[simp] theorem cMax_mk {i j : Int} {h : Mh} {Q : Kd} : cMax [.int i, .int j] h Q ↔ Q (.int (if j > i then j else i)) h := ⟨fun ⟨_, _, e, q⟩ => by cases e; exact q, fun q => ⟨_, _, rfl, q⟩⟩
theorem c_min {X : Cx} (hc : X.calm = true) : C3 X (.builtin "min") cMin := by
  intro pins s σ H xs us Q I rx h
  obtain ⟨ds, w, Q3, e, r, ra, ⟨i, j, rfl, q⟩, out⟩ := h
  subst e
  obtain ⟨x, y, rfl, p1, p2⟩ := ra.two
  cases p1
  cases p2
  exact call_min2 hc pins s σ w.H _ us Q I rx ⟨i, j, rfl, out.go r (Ext.refl w) (.int _) q⟩
theorem c_max {X : Cx} (hc : X.calm = true) : C3 X (.builtin "max") cMax := by
  intro pins s σ H xs us Q I rx h
  obtain ⟨ds, w, Q3, e, r, ra, ⟨i, j, rfl, q⟩, out⟩ := h
  subst e
  obtain ⟨x, y, rfl, p1, p2⟩ := ra.two
  cases p1
  cases p2
  exact call_max2 hc pins s σ w.H _ us Q I rx ⟨i, j, rfl, out.go r (Ext.refl w) (.int _) q⟩
@[simp] def rNegD : Dv → Mh → Kd → Prop := fun a h Q => ∃ i, a = .int i ∧ Q (.int (-i)) h
theorem u_neg {X : Cx} : UnR X (unaryOp .USub) (lo1 X.K rNegD) := by
  intro pins s σ H x v Q I rx h
  obtain ⟨a, w, Q3, e, r, p, ⟨i, rfl, q⟩, out⟩ := h
  subst e
  cases p
  exact un_neg pins s σ w.H _ v Q I rx ⟨i, rfl, out.go r (Ext.refl w) (.int _) q⟩
theorem e_un {X : Cx} {op : UnaryOp} {r : Dv → Mh → Kd → Prop} {a : Expr} {ga : GE} {pos : Pos} (ho : UnR X (unaryOp op) (lo1 X.K r)) (ha : E3 X a ga) : E3 X (.UnaryOp op a pos) (gUn r ga) := PEimp (pe_un ho ha) fun σ H Q ⟨ρ, w, Q3, e, gd, q, out⟩ => by
  subst e
  exact ⟨ρ, w, _, rfl, gd, q, fun d w1 v q1 r1 e1 p1 => ⟨d, w1, Q3, rfl, r1, p1, q1, out.ext e1⟩⟩

/-! ### xs.extend(ys) -/
theorem list_extendW (l : Addr) (items : Array Value) (n : Nat) (b : Addr) (items2 : Array Value) (n2 : Nat) (dd2 : Option Addr) (sl2 : Array (Option Value)) (hc0 : ¬(!items.isEmpty && Builtin.List.listTooLong (items.size + items2.size)) = true) (hc1 : items.size ≤ sizeLine) (hs2 : items.size + items2.size ≤ sizeLine + 1) :
    Meets (Builtin.«list.extend» ⟨[.ref l, .ref b], []⟩) (fun _ R s => s.heap.get? l = some { cls := .type "list", dict := none, data := .seq items n, slots := #[] } ∧ s.heap.get? b = some { cls := .type "list", dict := dd2, data := .seq items2 n2, slots := sl2 } ∧ R (.ok (.ret Value.none)) { s with heap := s.heap.update l (Obj.mapSeq fun x => x ++ items2), toks := s.toks }) :=
  .of_wp fun prog w A R s h => by
    obtain ⟨hp, g, d, tk, os⟩ := s
    obtain ⟨hl, hb, h⟩ := h
    have f1 := AutoSeq1.idx_int
    have f2 := AutoSeq1.sub_tuple_tuple
    have f3 := AutoSeq1.sub_list_list
    have f4 := AutoSeq1.sub_tuple_list
    have f5 := AutoSeq1.sub_list_tuple
    have hz' : (items ++ items2).size ≤ sizeLine + 1 := by rw [Array.size_append]; exact hs2
    wp_walk using (wpAny_updateSeq hl rfl (hz := hc1) (_hz' := hz')), AutoSeq1.wpAny_loadPart' hl, AutoSeq1.wpAny_loadPart' hb
    exact ⟨_, rfl, h⟩
def mExtend : DM := fun d ds h Q => ∃ a xs y ys, d = .ref a ∧ ds = [y] ∧ h a = some (.lst xs) ∧ lstOf h y = some ys ∧ xs.length + ys.length ≤ sizeLine ∧ Q .non (mput h a (.lst (xs ++ ys)))
@[simp] theorem mExtend_mk {a : Addr} {ys : List Dv} {h : Mh} {Q : Kd} : mExtend (.ref a) [.lst ys] h Q ↔ ∃ xs, h a = some (.lst xs) ∧ xs.length + ys.length ≤ sizeLine ∧ Q .non (mput h a (.lst (xs ++ ys))) := by
  constructor
  · rintro ⟨_, xs, _, _, e, e2, e3, e4, e5, q⟩
    cases e; cases e2; cases e4
    exact ⟨xs, e3, e5, q⟩
  · rintro ⟨xs, e3, e5, q⟩
    exact ⟨_, xs, _, _, rfl, rfl, e3, rfl, e5, q⟩
theorem m_extend {X : Cx} : M3 X "list.extend" mExtend := by
  intro pins s σ H x xs v us Q I rx rs h
  obtain ⟨d, ds, w, Q3, e, r, p, pa, ⟨a, zs, y, ys, rfl, rfl, hh, hy, hz, q⟩, out⟩ := h
  subst e
  cases p
  cases rx
  obtain ⟨t, rfl, pt⟩ := pa.one
  obtain ⟨b, vs, rfl, sq, rb⟩ := lstOf_at r pt hy
  obtain ⟨ws, hG, hH, ra⟩ := r.mlst hh
  obtain ⟨u, rfl, ru⟩ := rs.one
  cases ru
  obtain ⟨z, its, n, rv, hl, e⟩ := I.lstM hH
  obtain ⟨its2, rv2, ⟨⟨c2, d2, t2, sl2⟩, n2, ho2, hc2, hd2, ht2⟩, _⟩ := I.list sq
  simp only at hc2 ht2
  subst hc2 ht2
  have z1 := ra.length
  have z2 := rb.length
  have z3 := rv.length
  have z4 := rv2.length
  have hsz : its.toArray.size + its2.toArray.size ≤ sizeLine := by rw [List.size_toArray, List.size_toArray]; omega
  have hlong : ¬ (!its.toArray.isEmpty && Builtin.List.listTooLong (its.toArray.size + its2.toArray.size)) = true := by
    rw [notLongL hsz, Bool.and_false]
    exact Bool.false_ne_true
  refine call_meets F.slot_list_extend ⟨_, e, rfl⟩ F.entry_list_extend (F.args_list_extend_2 _ _)
    (list_extendW a its.toArray n b its2.toArray n2 d2 sl2 hlong (by rw [List.size_toArray]; omega) (by omega)) ⟨e, ho2, ?_⟩
  obtain ⟨r2, e2⟩ := put_lst (p := a) r (ra.append rb) (.inr ⟨_, hh⟩)
  refine ⟨.non, _, I.lset (its' := its ++ its2) hH e (by simp) (rv.append rv2) ?_, rfl, out.go r2 e2 .non q⟩
  rw [List.length_append]
  omega

/-! ### xs[::-1] -/
section
variable {prog : Program} {w : World} {A : Around} {E : Value → Shared → Prop} {s : Shared}
theorem places_rev (n : Nat) : Builtin.Slice.sliceAdjust none none (-1) (n : Int) = ((n : Int) - 1, -1) ∧ Builtin.Slice.slicePlaces ((n : Int) - 1) (-1) (-1) = n := by
  refine ⟨rfl, ?_⟩
  unfold Builtin.Slice.slicePlaces
  rw [if_neg (by decide)]
  by_cases h : ((n : Int) - 1) > -1
  · rw [if_pos h]
    have : ((n : Int) - 1 - -1 - 1) / - -1 + 1 = n := by
      rw [show (- -1 : Int) = 1 from rfl, Int.ediv_one]
      omega
    rw [this]
    simp
  · rw [if_neg h]
    have : n = 0 := by omega
    subst this
    rfl
theorem fm_congr {α β : Type} (f g : α → Option β) : ∀ (l : List α), (∀ x ∈ l, f x = g x) → l.filterMap f = l.filterMap g
  | [], _ => rfl
  | a :: l, h => by rw [List.filterMap_cons, List.filterMap_cons, h a List.mem_cons_self, fm_congr f g l fun x hx => h x (List.mem_cons_of_mem _ hx)]
theorem pick_rev (xs : Array Value) : ((List.range xs.size).filterMap fun (k : Nat) => xs[((xs.size : Int) - 1 + (k : Int) * -1).toNat]?).toArray = xs.toList.reverse.toArray := by
  congr 1
  have e : ((List.range xs.size).filterMap fun (k : Nat) => xs[((xs.size : Int) - 1 + (k : Int) * -1).toNat]?) = (List.range xs.size).filterMap (fun k => xs.toList.reverse[k]?) := by
    refine fm_congr _ _ _ fun k hk => ?_
    have hk := List.mem_range.mp hk
    have e2 : ((xs.size : Int) - 1 + (k : Int) * -1).toNat = xs.size - 1 - k := by omega
    rw [e2, List.getElem?_reverse (by simpa using hk)]
    simp
  rw [e]
  have : ∀ (l : List Value), (List.range l.length).filterMap (fun k => l[k]?) = l := fun l => by
    induction l with
    | nil => rfl
    | cons a l ih =>
      rw [List.length_cons, List.range_succ_eq_map, List.filterMap_cons, List.filterMap_map]
      simp only [List.getElem?_cons_zero]
      congr 1
  have h2 := this xs.toList.reverse
  rwa [List.length_reverse, Array.length_toList] at h2
theorem getItem_tuple_rev {t sl : Addr} {items : Array Value} {vs : Value} {Q : Value → Shared → Prop} (ht : IsTup s.heap t items) (hs : s.heap.IsSliceOf sl .none .none vs) (ps : IsPart vs (some (-1)))
    (h : Q (.ref s.heap.objs.size) { s with heap := s.heap.push { cls := .type "tuple", data := .seq items.toList.reverse.toArray } }) (hsz : items.size ≤ sizeLine) : wpAny (model prog w) A (getItem (.ref t) (.ref sl)) Q E s := by
  have htake : sizeOk (.seq items.toList.reverse.toArray) := by
    show items.toList.reverse.toArray.size ≤ sizeLine
    rw [List.size_toArray, List.length_reverse, Array.length_toList]
    exact hsz
  obtain ⟨os, hos, hcs, hds⟩ := id hs
  have hTs : s.TypeIs (.ref sl) "slice" := ⟨os, hos, hcs⟩
  unfold getItem
  try with_reducible refine wpAny_holding ?_
  first | refine wpAny_bind (wpAny_pure ?_) | skip
  refine wpAny_bind (wpAny_sequenceKey ht.typeIs (by decide) ?_)
  refine wpAny_bind (wpAny_callSpecial?_slot (name := Str.ofString "__getitem__") ht.typeIs PyProof.Rows.slot_tuple_getitem
    (wpAny_call_entry PyProof.Rows.slot_tuple_getitem ht.typeIs PyProof.Rows.entry_tuple_getitem ?_ (PyProof.Rows.args_tuple_getitem _ _)))
  show wpAny _ _ (Builtin.Tuple.tupleItemsOf (.ref t) >>= _) _ _ s
  refine wpAny_bind (PyProof.Rows.tupleItemsOf_ ht ?_)
  refine wpAny_bind (wpAny_typeOf hTs ?_)
  rw [if_pos (by decide)]
  have app : ∀ {A' : Around} {E' : Value → Shared → Prop} {Q' : Int × Int × Nat → Shared → Prop}, Q' ((items.size : Int) - 1, -1, items.size) s → wpAny (model prog w) A' (Builtin.Slice.sliceApplied (.ref sl) (pure (items.size : Int))) Q' E' s := fun q => by
    unfold Builtin.Slice.sliceApplied Builtin.Slice.sliceFields
    refine wpAny_bind (wpAny_bind (wpAny_field hos hds (x := .none) rfl (wpAny_bind (wpAny_field hos hds (x := .none) rfl (wpAny_bind (wpAny_field hos hds (x := vs) rfl (wpAny_pure ?_)))))))
    refine wpAny_bind (HT.slicePart_ ps ?_)
    show wpAny _ _ (if ((-1 : Int) == 0) = true then _ else _) _ _ s
    rw [if_neg (by decide)]
    refine wpAny_bind (HT.slicePart_ .none (wpAny_bind (HT.slicePart_ .none (wpAny_bind (wpAny_pure ?_)))))
    show wpAny _ _ (pure ((items.size : Int) - 1, (-1 : Int), Builtin.Slice.slicePlaces ((items.size : Int) - 1) (-1) (-1))) _ _ s
    rw [(places_rev items.size).2]
    exact wpAny_pure q
  refine wpAny_bind (app ?_)
  show wpAny _ _ (if (((items.size : Int) - 1) == 0 && (-1 : Int) == 1 && items.size == items.size) = true then _ else _) _ _ s
  rw [if_neg (by simp), pick_rev]
  first
    | exact wpAny_bind (m := Builtin.Tuple.tupleExact _) (wpAny_newObj_type (wpAny_pure ⟨_, rfl, wpAny_pure h⟩) htake)
    | exact wpAny_bind (m := Builtin.Tuple.tupleExact _) (wpAny_newObj_type (wpAny_bind (wpAny_pure (wpAny_pure ⟨_, rfl, wpAny_pure h⟩))) htake)
    | exact wpAny_bind (wpAny_bind (m := Builtin.Tuple.tupleExact _) (wpAny_newObj_type (wpAny_pure (wpAny_pure ⟨_, rfl, wpAny_pure h⟩)) htake))
    | exact wpAny_bind (wpAny_bind (m := Builtin.Tuple.tupleExact _) (wpAny_newObj_type (wpAny_pure ⟨_, rfl, wpAny_pure h⟩) htake))
end
section
variable {X : Cx}
def tRevA (K : PySem.W.Frag) (te : TE) : TE := fun σ H Q => te σ H fun x H1 => (∃ a xs, x = .ref a ∧ SqL K H1 a xs ∧ ∀ p, H1 p = none → Q (.ref p) (upd H1 p (.lst xs.reverse))) ∨ ∃ a xs, x = .ref a ∧ SqT K H1 a xs ∧ ∀ p, H1 p = none → Q (.ref p) (upd H1 p (.tup xs.reverse))
theorem pe_revA {e : Expr} {te : TE} {k : Nat} {p1 p2 p3 pos : Pos} (he : PE X e te) : PE X (.Subscript e (.Slice none none (some (.UnaryOp .USub (.Constant (.int 1) k p1) p2)) p3) pos) (tRevA X.K te) := by
  refine ⟨fun pins s σ H Q I h => ?_⟩
  refine Subscript_ (thn (he.run pins s σ H _ I h) fun v s1 ⟨x, H1, I1, r1, q1⟩ => ?_)
  have hst : PO X (some (.UnaryOp .USub (.Constant (.int 1) k p1) p2)) (tPart (tUn (rU fun i => .int (-i)) (tC (.int 1)))) := po_some (pe_un un_neg pe_int)
  refine wpAny_Slice (thn (po_none.run pins s1 σ H1 (fun o H2 => o = none ∧ H2 = H1) I1 ⟨rfl, rfl⟩) fun vl s2 ⟨l, H2, I2, pl, el, e2⟩ => ?_)
  subst el e2
  refine thn (po_none.run pins s2 σ H2 (fun o H3 => o = none ∧ H3 = H2) I2 ⟨rfl, rfl⟩) fun vu s3 ⟨u, H3, I3, pu, eu, e3⟩ => ?_
  subst eu e3
  refine thn (hst.run pins s3 σ H3 (fun o H4 => o = some (-1) ∧ H4 = H3) I3 ⟨1, rfl, -1, rfl, rfl, rfl⟩) fun vs s4 ⟨o, H4, I4, ps, eo, e4⟩ => ?_
  subst eo e4
  have I5 : L2.Inv X pins σ H4 { s4 with heap := s4.heap.push { cls := .type "slice", data := .fields #[vl, vu, vs] } } := I4.kept (t' := s4.toks) fun b ob q => Heap.get?_push_of_some _ q
  rcases q1 with ⟨a, xs, ex, hx, q⟩ | ⟨a, xs, ex, hx, q⟩
  · subst ex
    cases r1
    obtain ⟨its, r, ht, hz⟩ := I5.list hx
    have hlen := r.length
    show wpAny (model X.prog X.w) X.A (subscriptTail e (.Slice none none (some (.UnaryOp .USub (.Constant (.int 1) k p1) p2)) p3) (.ref a) (.ref s4.heap.objs.size)) (EP X pins σ Q) X.xe { s4 with heap := s4.heap.push { cls := .type "slice", data := .fields #[vl, vu, vs] } }
    refine tail_any (ops := [.ref a, .ref s4.heap.objs.size]) ht.isList.typeIs (PySem.slot_list_getitem.lookup) ?_ (by with_unfolding_all rfl)
    refine wpAny_getItem_list_slice ht.isList (Heap.IsSliceOf.new _ vl vu vs) pl pu ps (by decide) ?_ (by rw [List.size_toArray]; omega)
    rw [PySem.W.krv_pick]
    refine ⟨.ref _, _, I5.laid (t' := s4.toks) (o := .lst xs.reverse) (fun b ob q => Heap.get?_push_of_some _ q) (Nat.le_refl _) ?_, rfl, q _ (I5.hok.fresh (Nat.le_refl _))⟩
    exact ⟨by rw [List.length_reverse]; exact hz, _, 0, r.reverse, Heap.get?_push_size _ rfl⟩
  · subst ex
    cases r1
    cases pl
    cases pu
    obtain ⟨its, r, ht, hz⟩ := I5.tuple hx
    have hlen := r.length
    show wpAny (model X.prog X.w) X.A (subscriptTail e (.Slice none none (some (.UnaryOp .USub (.Constant (.int 1) k p1) p2)) p3) (.ref a) (.ref s4.heap.objs.size)) (EP X pins σ Q) X.xe { s4 with heap := s4.heap.push { cls := .type "slice", data := .fields #[.none, .none, vs] } }
    refine tail_any (ops := [.ref a, .ref s4.heap.objs.size]) ht.typeIs (PyProof.Rows.slot_tuple_getitem.lookup) ?_ (by with_unfolding_all rfl)
    refine getItem_tuple_rev ht (Heap.IsSliceOf.new _ .none .none vs) ps ?_ (by rw [List.size_toArray]; omega)
    refine ⟨.ref _, _, I5.laid (t' := s4.toks) (o := .tup xs.reverse) (fun b ob q => Heap.get?_push_of_some _ q) (Nat.le_refl _) ?_, rfl, q _ (I5.hok.fresh (Nat.le_refl _))⟩
    exact ⟨by rw [List.length_reverse]; exact hz, _, r.reverse, IsTup.new _ _⟩
theorem RpAll.reverse {K : PySem.W.Frag} {w : Wd} : ∀ {ds : List Dv} {xs : List V}, RpAll K w ds xs → RpAll K w ds.reverse xs.reverse
  | _, _, .nil => .nil
  | _, _, .cons a b => by
    rw [List.reverse_cons, List.reverse_cons]
    exact (RpAll.reverse b).append (.cons a .nil)
def rRevD : Dv → Mh → Kd → Prop := fun a h Q => match a with
  | .tup ds => Q (.tup ds.reverse) h
  | a => ∃ ds, lstOf h a = some ds ∧ Q (.lst ds.reverse) h
@[simp] theorem rRev_tup {ds : List Dv} {h : Mh} {Q : Kd} : rRevD (.tup ds) h Q ↔ Q (.tup ds.reverse) h := Iff.rfl
@[simp] theorem rRev_lst {ds : List Dv} {h : Mh} {Q : Kd} : rRevD (.lst ds) h Q ↔ Q (.lst ds.reverse) h := ⟨fun ⟨_, e, q⟩ => by cases e; exact q, fun q => ⟨_, rfl, q⟩⟩
@[simp] def gRev (g : GE) : GE := fun ρ h Q => g ρ h fun d h1 => rRevD d h1 Q
theorem e_rev {a : Expr} {ga : GE} {k : Nat} {p1 p2 p3 pos : Pos} (ha : E3 X a ga) : E3 X (.Subscript a (.Slice none none (some (.UnaryOp .USub (.Constant (.int 1) k p1) p2)) p3) pos) (gRev ga) := PEimp (pe_revA ha) fun σ H Q ⟨ρ, w, Q3, e, gd, q, out⟩ => by
  subst e
  refine ⟨ρ, w, _, rfl, gd, q, fun d w1 v q1 r1 e1 p1 => ?_⟩
  have lists : (∃ ds, lstOf w1.h d = some ds ∧ Q3 (.lst ds.reverse) w1.h) → (∃ a xs, v = .ref a ∧ SqL X.K w1.H a xs ∧ ∀ p, w1.H p = none → Q (.ref p) (upd w1.H p (.lst xs.reverse))) := fun ⟨ds, h1, q⟩ => by
    obtain ⟨p, xs, e, sq, ra⟩ := lstOf_at r1 p1 h1
    refine ⟨p, xs, e, sq, fun p np => ?_⟩
    obtain ⟨r2, e2, p2⟩ := new_lst (p := p) r1 ra.reverse np
    exact (out.ext e1).go r2 e2 p2 q
  cases d with
  | tup ds =>
    cases p1 with
    | tup t ra =>
      refine .inr ⟨_, _, rfl, r1.sqT t, fun p np => ?_⟩
      obtain ⟨r2, e2, p2⟩ := new_tup (p := p) r1 ra.reverse np
      exact (out.ext e1).go r2 e2 p2 q1
  | _ => exact .inl (lists q1)
end

/-! ### == of lists, frozen or not -/
section
variable {X : Cx}
def rEqR (neg : Bool) : D2 := fun a b h Q => ∃ xs ys, lstOf h a = some xs ∧ lstOf h b = some ys ∧ dats xs = true ∧ dats ys = true ∧ deps xs ≤ 59 ∧ Q (.bl (if neg then !deqs xs ys else deqs xs ys)) h
theorem rEqR_ref {neg : Bool} {a : Addr} {xs ys : List Dv} {h : Mh} {Q : Kd} (e : h a = some (.lst xs)) (d1 : dats xs = true) (d2 : dats ys = true) (d3 : deps xs ≤ 59) (q : Q (.bl (if neg then !deqs xs ys else deqs xs ys)) h) : rEqR neg (.ref a) (.lst ys) h Q := ⟨xs, ys, lstOf_refE.2 e, rfl, d1, d2, d3, q⟩
theorem reads_lst {pins : List (Addr × Obj)} {σ : L2.St} {H : Hp} {s : Shared} (I : L2.Inv X pins σ H s) {w : Wd} {a : Dv} {x : V} {v : Value} {xs : List Dv} (e : w.H = H) (r : Rel X.K w) (p : Rp X.K w a x) (rx : RelV x v) (h : lstOf w.h a = some xs) (ha : dats xs = true) : ∃ as, Reads s.heap v (.list (pys xs)) as := by
  subst e
  obtain ⟨b, ys, rfl, sq, ra⟩ := lstOf_at r p h
  exact Dp.reads I (.list (pys xs)) _ v (.lst sq (RpAll.dp r xs _ ra ha)) rx
theorem o_eqR (hu : X.A.units + 64 < cLine) : OpR X (compareOp .Eq) (lo2 X.K (rEqR false)) := by
  intro pins s σ H x y v u Q I rx ry h
  obtain ⟨a, b, w, Q3, e, r, pa, pb, ⟨xs, ys, h1, h2, d1, d2, d3, q⟩, out⟩ := h
  obtain ⟨as, r1⟩ := reads_lst I e r pa rx h1 d1
  obtain ⟨bs, r2⟩ := reads_lst I e r pb ry h2 d2
  subst e
  refine SeqAt.eq_plain r1 r2 (by simp [PyData.plain, plain_pys]) (by simp [PyData.plain, plain_pys]) (by simp only [PyData.depth, depth_pys]; omega) ⟨.bl _, w.H, I, rfl, ?_⟩
  have e2 : PyData.eqv (.list (pys xs)) (.list (pys ys)) = deqs xs ys := by
    simp only [PyData.eqv]
    exact eqv_pys xs ys d1 d2
  rw [e2]
  exact out _ w _ q r (Ext.refl w) (.bl _)
theorem o_neR (hu : X.A.units + 64 < cLine) : OpR X (compareOp .NotEq) (lo2 X.K (rEqR true)) := by
  intro pins s σ H x y v u Q I rx ry h
  obtain ⟨a, b, w, Q3, e, r, pa, pb, ⟨xs, ys, h1, h2, d1, d2, d3, q⟩, out⟩ := h
  obtain ⟨as, r1⟩ := reads_lst I e r pa rx h1 d1
  obtain ⟨bs, r2⟩ := reads_lst I e r pb ry h2 d2
  subst e
  refine SeqAt.ne_plain r1 r2 (by simp [PyData.plain, plain_pys]) (by simp [PyData.plain, plain_pys]) (by simp only [PyData.depth, depth_pys]; omega) ⟨.bl _, w.H, I, rfl, ?_⟩
  have e2 : PyData.eqv (.list (pys xs)) (.list (pys ys)) = deqs xs ys := by
    simp only [PyData.eqv]
    exact eqv_pys xs ys d1 d2
  rw [e2]
  exact out _ w _ q r (Ext.refl w) (.bl _)
end
end G3

namespace L44
open PySem L2 G3

def W_is_whole : GS :=
  (gRet (gAnd (gCall cIsi (gCons (gVar 0) (gCons (gC (.ty "int")) gNil))) (gNot (gCall cIsi (gCons (gVar 0) (gCons (gC (.ty "bool")) gNil))))))
def sp_is_whole : Sp3 := fun ds h Q => ds.length = 1 ∧ W_is_whole { nx := fun _ h' => Q .non h', rt := Q } (startD ["thing"] ds) h
theorem len_is_whole : ∀ ds h Q, sp_is_whole ds h Q → ds.length = [("thing" : Str)].length := fun _ _ _ z => z.1
theorem w_is_whole : ∀ ds h Q, sp_is_whole ds h Q → W_is_whole { nx := fun _ h' => Q .non h', rt := Q } (startD ["thing"] ds) h := fun _ _ _ z => z.2
def W_is_forbid : GS :=
  (gSeq (gIfS (gOrT (gNotT (gTest (gCall cIsi (gCons (gVar 1) (gCons (gC (.ty "tuple")) gNil))))) (gOrT (gTest (gOp (rEqD3 true) (gCall cLen (gCons (gVar 1) gNil)) (gC (.int 3)))) (gNotT (gTest (gCall cAll (gCons (gLc [6] (gIt (gVar 1)) (ggName 6) gYes (gFn sp_is_whole (gCons (gVar 6) gNil))) gNil)))))) (gRet (gC (.bl false))) gNext)
  (gSeq (gAsg (gVar 1) (ggTup 3 (ggCons (ggName 2) (ggCons (ggName 3) (ggCons (ggName 4) ggNil)))))
  (gSeq (gSet 5 (gOp rIxD (gVar 0) (gC (.int 1))))
  (gSeq (gIfS (gOrT (gNotT (gTest (gChain rLeD rLtD (gC (.int 0)) (gVar 2) (gCall cLen (gCons (gVar 5) gNil))))) (gOrT (gNotT (gTest (gChain rLeD rLtD (gC (.int 0)) (gVar 4) (gCall cLen (gCons (gVar 5) gNil))))) (gNotT (gTest (gChain rLeD rLtD (gC (.int 0)) (gVar 3) (gCall cLen (gCons (gOp rIxD (gOp rIxD (gVar 5) (gVar 2)) (gC (.int 1))) gNil))))))) (gRet (gC (.bl false))) gNext)
  (gRet (gOp (rEqD3 false) (gOp rIxD (gOp rIxD (gOp rIxD (gVar 5) (gVar 2)) (gC (.int 1))) (gVar 3)) (gOp rIxD (gOp rIxD (gVar 5) (gVar 4)) (gC (.int 0)))))))))
def sp_is_forbid : Sp3 := fun ds h Q => ds.length = 2 ∧ W_is_forbid { nx := fun _ h' => Q .non h', rt := Q } (startD ["rules", "thing", "number", "part", "other", "rows", "one"] ds) h
theorem len_is_forbid : ∀ ds h Q, sp_is_forbid ds h Q → ds.length = [("rules" : Str), ("thing" : Str)].length := fun _ _ _ z => z.1
theorem w_is_forbid : ∀ ds h Q, sp_is_forbid ds h Q → W_is_forbid { nx := fun _ h' => Q .non h', rt := Q } (startD ["rules", "thing", "number", "part", "other", "rows", "one"] ds) h := fun _ _ _ z => z.2
def W_are_forbids : GS :=
  (gSeq (gIfS (gOrT (gNotT (gTest (gCall cIsi (gCons (gVar 1) (gCons (gC (.ty "tuple")) gNil))))) (gTest (gOp rGtD (gCall cLen (gCons (gVar 1) gNil)) (gC (.int 512))))) (gRet (gC (.bl false))) gNext)
  (gRet (gCall cAll (gCons (gLc [2] (gIt (gVar 1)) (ggName 2) gYes (gFn sp_is_forbid (gCons (gVar 0) (gCons (gVar 2) gNil)))) gNil))))
def sp_are_forbids : Sp3 := fun ds h Q => ds.length = 2 ∧ W_are_forbids { nx := fun _ h' => Q .non h', rt := Q } (startD ["rules", "thing", "one"] ds) h
theorem len_are_forbids : ∀ ds h Q, sp_are_forbids ds h Q → ds.length = [("rules" : Str), ("thing" : Str)].length := fun _ _ _ z => z.1
theorem w_are_forbids : ∀ ds h Q, sp_are_forbids ds h Q → W_are_forbids { nx := fun _ h' => Q .non h', rt := Q } (startD ["rules", "thing", "one"] ds) h := fun _ _ _ z => z.2
def W_l_e_pen : GS :=
  (gRet (gMLst (gCons (gCall cList (gCons (gSl (gVar 0) gNoPart (gPart (gC (.int 60)))) gNil)) (gCons (gC (.int 0)) (gCons (gC (.int 0)) gNil)))))
def sp_l_e_pen : Sp3 := fun ds h Q => ds.length = 1 ∧ W_l_e_pen { nx := fun _ h' => Q .non h', rt := Q } (startD ["_law_script"] ds) h
theorem len_l_e_pen : ∀ ds h Q, sp_l_e_pen ds h Q → ds.length = [("_law_script" : Str)].length := fun _ _ _ z => z.1
theorem w_l_e_pen : ∀ ds h Q, sp_l_e_pen ds h Q → W_l_e_pen { nx := fun _ h' => Q .non h', rt := Q } (startD ["_law_script"] ds) h := fun _ _ _ z => z.2
def W_l_e_fresh : GS :=
  (gSeq (gSet 1 (gOp rIxD (gVar 0) (gC (.int 1))))
  (gSeq (gAsg (gOp rAddD (gVar 1) (gC (.int 1))) (ggSub (gVar 0) (gC (.int 1))))
  (gSeq (gSet 2 (gC (.int 0)))
  (gSeq (gIfS (gTest (gOp (rEqD3 true) (gOp rIxD (gVar 0) (gC (.int 0))) (gLst gNil))) (gSet 2 (gOp rFdvD (gOp rIxD (gOp rIxD (gVar 0) (gC (.int 0))) (gOp rModD (gOp rMulD (gVar 1) (gC (.int 7))) (gCall cLen (gCons (gOp rIxD (gVar 0) (gC (.int 0))) gNil)))) (gOp rAddD (gC (.int 1)) (gOp rFdvD (gVar 1) (gCall cLen (gCons (gOp rIxD (gVar 0) (gC (.int 0))) gNil)))))) gNext)
  (gSeq (gIfS (gTest (gOp rLtD (gVar 1) (gCall cLen (gCons (gOp rIxD (gVar 0) (gC (.int 0))) gNil)))) (gSet 2 (gOp rIxD (gOp rIxD (gVar 0) (gC (.int 0))) (gVar 1))) gNext)
  (gSeq (gIfS (gTest (gOp rGeD (gVar 2) (gOp rPowD (gC (.int 10)) (gC (.int 18))))) (gRet (gVar 2)) gNext)
  (gSeq (gSet 3 (gOp rIxD (gLst (gCons (gC (.int 2147483647)) (gCons (gC (.int 2147483629)) (gCons (gC (.int 2147483587)) (gCons (gC (.int 2147483579)) (gCons (gC (.int 2147483563)) (gCons (gC (.int 2147483549)) (gCons (gC (.int 2147483543)) gNil)))))))) (gOp rModD (gVar 1) (gC (.int 7)))))
  (gSeq (gSet 4 (gOp rIxD (gLst (gCons (gC (.int 2147483497)) (gCons (gC (.int 2147483489)) (gCons (gC (.int 2147483477)) (gCons (gC (.int 2147483423)) (gCons (gC (.int 2147483399)) gNil)))))) (gOp rModD (gVar 1) (gC (.int 5)))))
  (gSeq (gSet 5 (gOp rModD (gOp rPowD (gOp rAddD (gOp rAddD (gOp rModD (gVar 2) (gVar 3)) (gOp rMulD (gC (.int 31)) (gVar 1))) (gC (.int 5))) (gC (.int 5))) (gVar 3)))
  (gSeq (gSet 6 (gOp rModD (gOp rPowD (gOp rAddD (gOp rAddD (gVar 5) (gOp rModD (gVar 2) (gVar 4))) (gOp rMulD (gVar 1) (gVar 1))) (gC (.int 3))) (gVar 4)))
  (gRet (gOp rAddD (gOp rMulD (gOp rAddD (gVar 5) (gC (.int 3))) (gVar 4)) (gVar 6)))))))))))))
def sp_l_e_fresh : Sp3 := fun ds h Q => ds.length = 1 ∧ W_l_e_fresh { nx := fun _ h' => Q .non h', rt := Q } (startD ["_law_pen", "_law_at", "_law_cell", "_law_one", "_law_two", "_law_mixed", "_law_other"] ds) h
theorem len_l_e_fresh : ∀ ds h Q, sp_l_e_fresh ds h Q → ds.length = [("_law_pen" : Str)].length := fun _ _ _ z => z.1
theorem w_l_e_fresh : ∀ ds h Q, sp_l_e_fresh ds h Q → W_l_e_fresh { nx := fun _ h' => Q .non h', rt := Q } (startD ["_law_pen", "_law_at", "_law_cell", "_law_one", "_law_two", "_law_mixed", "_law_other"] ds) h := fun _ _ _ z => z.2
def W_l_e_take : GS :=
  (gSeq (gIfS (gTest (gOp rLtD (gOp rIxD (gVar 0) (gC (.int 2))) (gVar 1))) (gAsg (gFn sp_l_e_fresh (gCons (gVar 0) gNil)) (ggSub (gVar 0) (gC (.int 2)))) gNext)
  (gSeq (gSet 2 (gOp rModD (gOp rIxD (gVar 0) (gC (.int 2))) (gVar 1)))
  (gSeq (gAsg (gOp rFdvD (gOp rIxD (gVar 0) (gC (.int 2))) (gVar 1)) (ggSub (gVar 0) (gC (.int 2))))
  (gRet (gVar 2)))))
def sp_l_e_take : Sp3 := fun ds h Q => ds.length = 2 ∧ W_l_e_take { nx := fun _ h' => Q .non h', rt := Q } (startD ["_law_pen", "_law_many", "_law_found"] ds) h
theorem len_l_e_take : ∀ ds h Q, sp_l_e_take ds h Q → ds.length = [("_law_pen" : Str), ("_law_many" : Str)].length := fun _ _ _ z => z.1
theorem w_l_e_take : ∀ ds h Q, sp_l_e_take ds h Q → W_l_e_take { nx := fun _ h' => Q .non h', rt := Q } (startD ["_law_pen", "_law_many", "_law_found"] ds) h := fun _ _ _ z => z.2
def W_l_e_mixed : GS :=
  (gSeq (gSet 2 (gCall cMList (gCons (gVar 1) gNil)))
  (gRet (gLc [3] (gRng1 (gCons (gCall cLen (gCons (gVar 1) gNil)) gNil)) (ggName 3) gYes (gBM "list" mPopAt (gVar 2) (gCons (gFn sp_l_e_take (gCons (gVar 0) (gCons (gCall cLen (gCons (gVar 2) gNil)) gNil))) gNil)))))
def sp_l_e_mixed : Sp3 := fun ds h Q => ds.length = 2 ∧ W_l_e_mixed { nx := fun _ h' => Q .non h', rt := Q } (startD ["_law_pen", "_law_some", "_law_left", "_law_k"] ds) h
theorem len_l_e_mixed : ∀ ds h Q, sp_l_e_mixed ds h Q → ds.length = [("_law_pen" : Str), ("_law_some" : Str)].length := fun _ _ _ z => z.1
theorem w_l_e_mixed : ∀ ds h Q, sp_l_e_mixed ds h Q → W_l_e_mixed { nx := fun _ h' => Q .non h', rt := Q } (startD ["_law_pen", "_law_some", "_law_left", "_law_k"] ds) h := fun _ _ _ z => z.2
def W_l_e_rows : GS :=
  (gSeq (gAsg (gVar 1) (ggTup 3 (ggCons (ggName 3) (ggCons (ggName 4) (ggCons (ggName 5) ggNil)))))
  (gSeq (gAsg (gVar 2) (ggTup 3 (ggCons (ggName 6) (ggCons (ggName 7) (ggCons (ggName 8) ggNil)))))
  (gSeq (gSet 9 (gMLst (gCons (gLst (gCons (gTup (gCons (gVar 3) (gCons (gTup (gCons (gVar 3) (gCons (gVar 3) gNil))) gNil))) (gCons (gTup (gCons (gVar 3) (gCons (gTup (gCons (gVar 6) gNil)) gNil))) (gCons (gTup (gCons (gVar 3) (gCons (gTup gNil) gNil))) (gCons (gTup (gCons (gVar 3) (gCons (gTup (gCons (gVar 3) (gCons (gVar 3) (gCons (gVar 3) gNil)))) gNil))) (gCons (gTup (gCons (gVar 3) (gCons (gTup (gCons (gVar 7) gNil)) gNil))) (gCons (gTup (gCons (gVar 4) (gCons (gTup (gCons (gVar 6) gNil)) gNil))) gNil))))))) gNil)))
  (gSeq (gDrop (gBM "list" mAppend (gVar 9) (gCons (gLst (gCons (gTup (gCons (gVar 3) (gCons (gTup (gCons (gVar 3) (gCons (gVar 6) (gCons (gVar 3) gNil)))) gNil))) (gCons (gTup (gCons (gVar 3) (gCons (gTup (gCons (gVar 3) (gCons (gVar 7) (gCons (gVar 3) gNil)))) gNil))) (gCons (gTup (gCons (gVar 3) (gCons (gTup (gCons (gVar 8) gNil)) gNil))) (gCons (gTup (gCons (gVar 3) (gCons (gTup (gCons (gVar 6) (gCons (gVar 3) gNil))) gNil))) (gCons (gTup (gCons (gVar 3) (gCons (gTup (gCons (gVar 3) (gCons (gVar 7) gNil))) gNil))) (gCons (gTup (gCons (gVar 4) (gCons (gTup (gCons (gVar 3) gNil)) gNil))) (gCons (gTup (gCons (gVar 3) (gCons (gTup (gCons (gVar 4) (gCons (gVar 6) (gCons (gVar 3) gNil)))) gNil))) gNil)))))))) gNil)))
  (gSeq (gDrop (gBM "list" mAppend (gVar 9) (gCons (gLst (gCons (gTup (gCons (gVar 3) (gCons (gTup (gCons (gVar 4) gNil)) gNil))) (gCons (gTup (gCons (gVar 4) (gCons (gTup (gCons (gVar 5) gNil)) gNil))) (gCons (gTup (gCons (gVar 5) (gCons (gTup (gCons (gVar 3) gNil)) gNil))) (gCons (gTup (gCons (gVar 5) (gCons (gTup (gCons (gVar 6) gNil)) gNil))) (gCons (gTup (gCons (gVar 3) (gCons (gTup (gCons (gVar 3) (gCons (gVar 5) gNil))) gNil))) (gCons (gTup (gCons (gVar 4) (gCons (gTup (gCons (gVar 7) (gCons (gVar 4) gNil))) gNil))) gNil))))))) gNil)))
  (gSeq (gDrop (gBM "list" mAppend (gVar 9) (gCons (gLst (gCons (gTup (gCons (gVar 3) (gCons (gTup (gCons (gVar 4) (gCons (gVar 3) (gCons (gVar 6) gNil)))) gNil))) (gCons (gTup (gCons (gVar 3) (gCons (gTup (gCons (gVar 7) gNil)) gNil))) (gCons (gTup (gCons (gVar 4) (gCons (gTup gNil) gNil))) (gCons (gTup (gCons (gVar 4) (gCons (gTup (gCons (gVar 6) gNil)) gNil))) (gCons (gTup (gCons (gVar 3) (gCons (gTup (gCons (gVar 3) (gCons (gVar 4) gNil))) gNil))) (gCons (gTup (gCons (gVar 4) (gCons (gTup (gCons (gVar 4) (gCons (gVar 4) gNil))) gNil))) gNil))))))) gNil)))
  (gSeq (gDrop (gBM "list" mAppend (gVar 9) (gCons (gLst (gCons (gTup (gCons (gVar 3) (gCons (gTup (gCons (gVar 4) (gCons (gVar 5) gNil))) gNil))) (gCons (gTup (gCons (gVar 4) (gCons (gTup (gCons (gVar 6) (gCons (gVar 4) gNil))) gNil))) (gCons (gTup (gCons (gVar 4) (gCons (gTup gNil) gNil))) (gCons (gTup (gCons (gVar 5) (gCons (gTup (gCons (gVar 5) (gCons (gVar 6) gNil))) gNil))) (gCons (gTup (gCons (gVar 5) (gCons (gTup (gCons (gVar 6) gNil)) gNil))) (gCons (gTup (gCons (gVar 3) (gCons (gTup (gCons (gVar 5) (gCons (gVar 4) gNil))) gNil))) (gCons (gTup (gCons (gVar 3) (gCons (gTup (gCons (gVar 3) gNil)) gNil))) gNil)))))))) gNil)))
  (gSeq (gSet 10 (gOp rIxD (gVar 9) (gFn sp_l_e_take (gCons (gVar 0) (gCons (gC (.int 5)) gNil)))))
  (gSeq (gIfS (gTest (gOp (rEqD3 false) (gFn sp_l_e_take (gCons (gVar 0) (gCons (gC (.int 2)) gNil))) (gC (.int 0)))) (gRet (gSl (gVar 10) gNoPart (gPart (gOp rAddD (gC (.int 2)) (gFn sp_l_e_take (gCons (gVar 0) (gCons (gOp rSubD (gCall cLen (gCons (gVar 10) gNil)) (gC (.int 1))) gNil))))))) gNext)
  (gSeq (gSet 10 (gMLc [15] (gIt (gSl (gVar 1) gNoPart (gPart (gFn sp_l_e_take (gCons (gVar 0) (gCons (gC (.int 4)) gNil)))))) (ggName 15) gYes (gTup (gCons (gVar 15) (gCons (gTup (gCons (gOp rIxD (gVar 2) (gFn sp_l_e_take (gCons (gVar 0) (gCons (gC (.int 3)) gNil)))) gNil)) gNil)))))
  (gSeq (gFor (gRng1 (gCons (gOp rAddD (gC (.int 2)) (gFn sp_l_e_take (gCons (gVar 0) (gCons (gOp rIxD (gLst (gCons (gC (.int 4)) (gCons (gC (.int 10)) gNil))) (gFn sp_l_e_take (gCons (gVar 0) (gCons (gC (.int 2)) gNil)))) gNil)))) gNil)) (ggName 11)
  (gSeq (gSet 12 (gOp rIxD (gVar 1) (gOp rMulD (gCall cMin (gCons (gVar 11) (gCons (gC (.int 1)) gNil))) (gFn sp_l_e_take (gCons (gVar 0) (gCons (gC (.int 3)) gNil))))))
  (gSeq (gSet 13 (gTup gNil))
  (gSeq (gFor (gRng1 (gCons (gOp rIxD (gLst (gCons (gC (.int 0)) (gCons (gC (.int 1)) (gCons (gC (.int 1)) (gCons (gC (.int 2)) (gCons (gC (.int 2)) (gCons (gC (.int 3)) (gCons (gC (.int 4)) gNil)))))))) (gFn sp_l_e_take (gCons (gVar 0) (gCons (gC (.int 7)) gNil)))) gNil)) (ggName 14)
  (gSet 13 (gOp rAddD (gVar 13) (gTup (gCons (gOp rIxD (gOp rIxD (gLst (gCons (gVar 1) (gCons (gVar 2) (gCons (gVar 2) gNil)))) (gFn sp_l_e_take (gCons (gVar 0) (gCons (gC (.int 3)) gNil)))) (gFn sp_l_e_take (gCons (gVar 0) (gCons (gC (.int 3)) gNil)))) gNil)))))
  (gDrop (gBM "list" mAppend (gVar 10) (gCons (gTup (gCons (gVar 12) (gCons (gVar 13) gNil))) gNil)))))))
  (gRet (gFrz (gVar 10))))))))))))))
def sp_l_e_rows : Sp3 := fun ds h Q => ds.length = 3 ∧ W_l_e_rows { nx := fun _ h' => Q .non h', rt := Q } (startD ["_law_pen", "_law_names", "_law_signs", "_law_s", "_law_a", "_law_b", "_law_x", "_law_y", "_law_z", "_law_some", "_law_rows", "_law_k", "_law_head", "_law_body", "_law_j", "_law_name"] ds) h
theorem len_l_e_rows : ∀ ds h Q, sp_l_e_rows ds h Q → ds.length = [("_law_pen" : Str), ("_law_names" : Str), ("_law_signs" : Str)].length := fun _ _ _ z => z.1
theorem w_l_e_rows : ∀ ds h Q, sp_l_e_rows ds h Q → W_l_e_rows { nx := fun _ h' => Q .non h', rt := Q } (startD ["_law_pen", "_law_names", "_law_signs", "_law_s", "_law_a", "_law_b", "_law_x", "_law_y", "_law_z", "_law_some", "_law_rows", "_law_k", "_law_head", "_law_body", "_law_j", "_law_name"] ds) h := fun _ _ _ z => z.2
def W_l_e_rules : GS :=
  (gSeq (gSet 1 (gSl (gFn sp_l_e_mixed (gCons (gVar 0) (gCons (gLst (gCons (gC (.str "S")) (gCons (gC (.str "A")) (gCons (gC (.str "B0")) (gCons (gC (.str "Ex")) (gCons (gC (.str "T9")) (gCons (gC (.str "Nx1")) (gCons (gC (.str "Zzzzzz")) (gCons (gC (.str "Q")) gNil))))))))) gNil))) gNoPart (gPart (gC (.int 3)))))
  (gSeq (gSet 2 (gSl (gFn sp_l_e_mixed (gCons (gVar 0) (gCons (gLst (gCons (gC (.str "a")) (gCons (gC (.str "b")) (gCons (gC (.str "ab")) (gCons (gC (.str "+")) (gCons (gC (.str "(")) (gCons (gC (.str "*")) (gCons (gC (.str "xyz")) (gCons (gC (.str "s")) (gCons (gC (.str "aaaaaa")) gNil)))))))))) gNil))) gNoPart (gPart (gC (.int 3)))))
  (gSeq (gSet 3 (gMLst gNil))
  (gSeq (gFor (gIt (gFn sp_l_e_mixed (gCons (gVar 0) (gCons (gFn sp_l_e_rows (gCons (gVar 0) (gCons (gVar 1) (gCons (gVar 2) gNil)))) gNil)))) (ggName 4)
  (gIfS (gAndT (gTest (gOp (rInD true) (gVar 4) (gVar 3))) (gTest (gOp rLtD (gCall cLen (gCons (gVar 3) gNil)) (gC (.int 16))))) (gDrop (gBM "list" mAppend (gVar 3) (gCons (gVar 4) gNil))) gNext))
  (gRet (gTup (gCons (gOp rIxD (gVar 1) (gC (.int 0))) (gCons (gCall cTuple (gCons (gVar 3) gNil)) gNil))))))))
def sp_l_e_rules : Sp3 := fun ds h Q => ds.length = 1 ∧ W_l_e_rules { nx := fun _ h' => Q .non h', rt := Q } (startD ["_law_pen", "_law_names", "_law_signs", "_law_found", "_law_row"] ds) h
theorem len_l_e_rules : ∀ ds h Q, sp_l_e_rules ds h Q → ds.length = [("_law_pen" : Str)].length := fun _ _ _ z => z.1
theorem w_l_e_rules : ∀ ds h Q, sp_l_e_rules ds h Q → W_l_e_rules { nx := fun _ h' => Q .non h', rt := Q } (startD ["_law_pen", "_law_names", "_law_signs", "_law_found", "_law_row"] ds) h := fun _ _ _ z => z.2
def W_l_e_forbids : GS :=
  (gSeq (gSet 2 (gMLst gNil))
  (gSeq (gFor (gEnum (gCons (gOp rIxD (gVar 1) (gC (.int 1))) gNil)) (ggTup 2 (ggCons (ggName 3) (ggCons (ggName 4) ggNil)))
  (gFor (gEnum (gCons (gOp rIxD (gVar 4) (gC (.int 1))) gNil)) (ggTup 2 (ggCons (ggName 5) (ggCons (ggName 6) ggNil)))
  (gDrop (gBM "list" mExtend (gVar 2) (gCons (gLc [9, 10] (gEnum (gCons (gOp rIxD (gVar 1) (gC (.int 1))) gNil)) (ggTup 2 (ggCons (ggName 9) (ggCons (ggName 10) ggNil))) (gTest (gOp (rEqD3 false) (gOp rIxD (gVar 10) (gC (.int 0))) (gVar 6))) (gTup (gCons (gVar 3) (gCons (gVar 5) (gCons (gVar 9) gNil))))) gNil)))))
  (gSeq (gSet 7 (gTup gNil))
  (gSeq (gFor (gRng1 (gCons (gOp rIxD (gLst (gCons (gC (.int 0)) (gCons (gC (.int 0)) (gCons (gC (.int 1)) (gCons (gC (.int 2)) (gCons (gC (.int 4)) (gCons (gC (.int 9)) gNil))))))) (gFn sp_l_e_take (gCons (gVar 0) (gCons (gC (.int 6)) gNil)))) gNil)) (ggName 8)
  (gIfS (gTest (gOp (rEqR true) (gVar 2) (gLst gNil))) (gSet 7 (gOp rAddD (gVar 7) (gTup (gCons (gOp rIxD (gVar 2) (gFn sp_l_e_take (gCons (gVar 0) (gCons (gCall cLen (gCons (gVar 2) gNil)) gNil)))) gNil)))) gNext))
  (gRet (gVar 7))))))
def sp_l_e_forbids : Sp3 := fun ds h Q => ds.length = 2 ∧ W_l_e_forbids { nx := fun _ h' => Q .non h', rt := Q } (startD ["_law_pen", "_law_rules", "_law_every", "_law_number", "_law_row", "_law_part", "_law_word", "_law_found", "_law_turn", "_law_other", "_law_one"] ds) h
theorem len_l_e_forbids : ∀ ds h Q, sp_l_e_forbids ds h Q → ds.length = [("_law_pen" : Str), ("_law_rules" : Str)].length := fun _ _ _ z => z.1
theorem w_l_e_forbids : ∀ ds h Q, sp_l_e_forbids ds h Q → W_l_e_forbids { nx := fun _ h' => Q .non h', rt := Q } (startD ["_law_pen", "_law_rules", "_law_every", "_law_number", "_law_row", "_law_part", "_law_word", "_law_found", "_law_turn", "_law_other", "_law_one"] ds) h := fun _ _ _ z => z.2
def W_l_e_whole : GS :=
  (gRet (gAnd (gCall cIsi (gCons (gVar 0) (gCons (gC (.ty "int")) gNil))) (gNot (gCall cIsi (gCons (gVar 0) (gCons (gC (.ty "bool")) gNil))))))
def sp_l_e_whole : Sp3 := fun ds h Q => ds.length = 1 ∧ W_l_e_whole { nx := fun _ h' => Q .non h', rt := Q } (startD ["_law_thing"] ds) h
theorem len_l_e_whole : ∀ ds h Q, sp_l_e_whole ds h Q → ds.length = [("_law_thing" : Str)].length := fun _ _ _ z => z.1
theorem w_l_e_whole : ∀ ds h Q, sp_l_e_whole ds h Q → W_l_e_whole { nx := fun _ h' => Q .non h', rt := Q } (startD ["_law_thing"] ds) h := fun _ _ _ z => z.2
def W_l_e_due : GS :=
  (gSeq (gIfS (gOrT (gNotT (gTest (gCall cIsi (gCons (gVar 1) (gCons (gC (.ty "tuple")) gNil))))) (gTest (gOp rGtD (gCall cLen (gCons (gVar 1) gNil)) (gC (.int 512))))) (gRet (gC (.bl false))) gNext)
  (gSeq (gSet 2 (gOp rIxD (gVar 0) (gC (.int 1))))
  (gSeq (gFor (gIt (gVar 1)) (ggName 3)
  (gSeq (gIfS (gOrT (gNotT (gTest (gCall cIsi (gCons (gVar 3) (gCons (gC (.ty "tuple")) gNil))))) (gOrT (gTest (gOp (rEqD3 true) (gCall cLen (gCons (gVar 3) gNil)) (gC (.int 3)))) (gNotT (gTest (gCall cAll (gCons (gLc [4] (gIt (gVar 3)) (ggName 4) gYes (gFn sp_l_e_whole (gCons (gVar 4) gNil))) gNil)))))) (gRet (gC (.bl false))) gNext)
  (gSeq (gIfS (gOrT (gNotT (gTest (gChain rLeD rLtD (gC (.int 0)) (gOp rIxD (gVar 3) (gC (.int 0))) (gCall cLen (gCons (gVar 2) gNil))))) (gNotT (gTest (gChain rLeD rLtD (gC (.int 0)) (gOp rIxD (gVar 3) (gC (.int 2))) (gCall cLen (gCons (gVar 2) gNil)))))) (gRet (gC (.bl false))) gNext)
  (gIfS (gOrT (gNotT (gTest (gChain rLeD rLtD (gC (.int 0)) (gOp rIxD (gVar 3) (gC (.int 1))) (gCall cLen (gCons (gOp rIxD (gOp rIxD (gVar 2) (gOp rIxD (gVar 3) (gC (.int 0)))) (gC (.int 1))) gNil))))) (gTest (gOp (rEqD3 true) (gOp rIxD (gOp rIxD (gOp rIxD (gVar 2) (gOp rIxD (gVar 3) (gC (.int 0)))) (gC (.int 1))) (gOp rIxD (gVar 3) (gC (.int 1)))) (gOp rIxD (gOp rIxD (gVar 2) (gOp rIxD (gVar 3) (gC (.int 2)))) (gC (.int 0)))))) (gRet (gC (.bl false))) gNext))))
  (gRet (gC (.bl true))))))
def sp_l_e_due : Sp3 := fun ds h Q => ds.length = 2 ∧ W_l_e_due { nx := fun _ h' => Q .non h', rt := Q } (startD ["_law_rules", "_law_thing", "_law_rows", "_law_one", "_law_number"] ds) h
theorem len_l_e_due : ∀ ds h Q, sp_l_e_due ds h Q → ds.length = [("_law_rules" : Str), ("_law_thing" : Str)].length := fun _ _ _ z => z.1
theorem w_l_e_due : ∀ ds h Q, sp_l_e_due ds h Q → W_l_e_due { nx := fun _ h' => Q .non h', rt := Q } (startD ["_law_rules", "_law_thing", "_law_rows", "_law_one", "_law_number"] ds) h := fun _ _ _ z => z.2
def W_l_e_bent : GS :=
  (gSeq (gSet 3 (gFn sp_l_e_take (gCons (gVar 0) (gCons (gCall cLen (gCons (gVar 2) gNil)) gNil))))
  (gSeq (gSet 4 (gOp rIxD (gVar 2) (gVar 3)))
  (gSeq (gSet 5 (gFn sp_l_e_take (gCons (gVar 0) (gCons (gC (.int 3)) gNil))))
  (gSeq (gSet 6 (gCall cLen (gCons (gOp rIxD (gVar 1) (gC (.int 1))) gNil)))
  (gSeq (gSet 7 (gLst (gCons (gOp rAddD (gOp rIxD (gVar 4) (gVar 5)) (gC (.int 1))) (gCons (gOp rSubD (gOp rIxD (gVar 4) (gVar 5)) (gC (.int 1))) (gCons (gUn rNegD (gC (.int 1))) (gCons (gVar 6) (gCons (gC (.bl true)) (gCons (gC (.bl false)) (gCons (gC .non) (gCons (gCall cStrI (gCons (gOp rIxD (gVar 4) (gVar 5)) gNil)) (gCons (gTup (gCons (gOp rIxD (gVar 4) (gVar 5)) gNil)) (gCons (gLst (gCons (gOp rIxD (gVar 4) (gVar 5)) gNil)) gNil))))))))))))
  (gSeq (gSet 7 (gOp rAddD (gVar 7) (gLst (gCons (gOp rPowD (gC (.int 10)) (gC (.int 39))) (gCons (gFn sp_l_e_take (gCons (gVar 0) (gCons (gVar 6) gNil))) (gCons (gOp (rEqD3 false) (gOp rIxD (gVar 4) (gVar 5)) (gC (.int 1))) (gCons (gC (.int 4)) (gCons (gC (.int 0)) gNil))))))))
  (gSeq (gSet 8 (gOp rAddD (gOp rAddD (gSl (gVar 4) gNoPart (gPart (gVar 5))) (gTup (gCons (gOp rIxD (gVar 7) (gFn sp_l_e_take (gCons (gVar 0) (gCons (gC (.int 15)) gNil)))) gNil))) (gSl (gVar 4) (gPart (gOp rAddD (gVar 5) (gC (.int 1)))) gNoPart)))
  (gSeq (gSet 9 (gLst (gCons (gVar 8) (gCons (gVar 8) (gCons (gVar 8) (gCons (gSl (gVar 4) gNoPart (gPart (gC (.int 2)))) (gCons (gOp rAddD (gVar 4) (gTup (gCons (gC (.int 0)) gNil))) (gCons (gCall cList (gCons (gVar 4) gNil)) (gCons (gC .non) (gCons (gC (.int 0)) (gCons (gC (.str "")) (gCons (gTup gNil) (gCons (gTup (gCons (gVar 4) gNil)) (gCons (gRev (gVar 4)) gNil))))))))))))))
  (gRet (gOp rAddD (gOp rAddD (gSl (gVar 2) gNoPart (gPart (gVar 3))) (gTup (gCons (gOp rIxD (gVar 9) (gFn sp_l_e_take (gCons (gVar 0) (gCons (gC (.int 12)) gNil)))) gNil))) (gSl (gVar 2) (gPart (gOp rAddD (gVar 3) (gC (.int 1)))) gNoPart)))))))))))
def sp_l_e_bent : Sp3 := fun ds h Q => ds.length = 3 ∧ W_l_e_bent { nx := fun _ h' => Q .non h', rt := Q } (startD ["_law_pen", "_law_rules", "_law_bars", "_law_at", "_law_one", "_law_spot", "_law_many", "_law_odd", "_law_bent", "_law_some"] ds) h
theorem len_l_e_bent : ∀ ds h Q, sp_l_e_bent ds h Q → ds.length = [("_law_pen" : Str), ("_law_rules" : Str), ("_law_bars" : Str)].length := fun _ _ _ z => z.1
theorem w_l_e_bent : ∀ ds h Q, sp_l_e_bent ds h Q → W_l_e_bent { nx := fun _ h' => Q .non h', rt := Q } (startD ["_law_pen", "_law_rules", "_law_bars", "_law_at", "_law_one", "_law_spot", "_law_many", "_law_odd", "_law_bent", "_law_some"] ds) h := fun _ _ _ z => z.2
def W_law : GS :=
  (gSeq (gSet 1 (gFn sp_l_e_pen (gCons (gVar 0) gNil)))
  (gSeq (gFor (gRng1 (gCons (gC (.int 6)) gNil)) (ggName 2)
  (gSeq (gSet 3 (gFn sp_l_e_rules (gCons (gVar 1) gNil)))
  (gSeq (gSet 4 (gFn sp_l_e_forbids (gCons (gVar 1) (gCons (gVar 3) gNil))))
  (gSeq (gSet 5 (gLst (gCons (gVar 4) (gCons (gRev (gVar 4)) (gCons (gOp rAddD (gVar 4) (gSl (gVar 4) gNoPart (gPart (gC (.int 1))))) (gCons (gCall cList (gCons (gVar 4) gNil)) (gCons (gC .non) (gCons (gC (.int 0)) (gCons (gC (.str "")) (gCons (gTup gNil) (gCons (gLst gNil) (gCons (gTup (gCons (gTup gNil) gNil)) (gCons (gTup (gCons (gC .non) gNil)) (gCons (gTup (gCons (gTup (gCons (gC (.int 0)) (gCons (gC (.int 0)) gNil))) gNil)) (gCons (gC (.bl true)) gNil)))))))))))))))
  (gSeq (gSet 5 (gOp rAddD (gVar 5) (gLst (gCons (gTup (gCons (gTup (gCons (gC (.int 0)) (gCons (gC (.int 0)) (gCons (gC (.int 0)) gNil)))) gNil)) (gCons (gTup (gCons (gTup (gCons (gC (.int 0)) (gCons (gC (.int 0)) (gCons (gCall cLen (gCons (gOp rIxD (gVar 3) (gC (.int 1))) gNil)) gNil)))) gNil)) (gCons (gTup (gCons (gTup (gCons (gC (.bl true)) (gCons (gC (.int 0)) (gCons (gC (.int 0)) gNil)))) gNil)) (gCons (gTup (gCons (gOp rIxD (gVar 3) (gC (.int 1))) gNil)) gNil)))))))
  (gSeq (gIfS (gTest (gOp (rEqD3 true) (gVar 4) (gTup gNil))) (gSeq (gSet 5 (gOp rAddD (gVar 5) (gLc [8] (gRng1 (gCons (gC (.int 10)) gNil)) (ggName 8) gYes (gFn sp_l_e_bent (gCons (gVar 1) (gCons (gVar 3) (gCons (gVar 4) gNil)))))))
  (gSet 5 (gOp rAddD (gVar 5) (gLst (gCons (gOp rMulD (gSl (gVar 4) gNoPart (gPart (gC (.int 1)))) (gC (.int 512))) (gCons (gOp rMulD (gSl (gVar 4) gNoPart (gPart (gC (.int 1)))) (gC (.int 513))) gNil)))))) gNext)
  (gFor (gIt (gVar 5)) (ggName 6)
  (gSeq (gSet 7 (gCall cRepr (gCons (gVar 6) gNil)))
  (gIfS (gOrT (gTest (gOp (rEqD3 true) (gCall cRepr (gCons (gFn sp_are_forbids (gCons (gVar 3) (gCons (gVar 6) gNil))) gNil)) (gCall cRepr (gCons (gFn sp_l_e_due (gCons (gVar 3) (gCons (gVar 6) gNil))) gNil)))) (gTest (gOp (rEqD3 true) (gCall cRepr (gCons (gVar 6) gNil)) (gVar 7)))) (gRet (gC (.bl false))) gNext)))))))))
  (gRet (gC (.bl true)))))
def sp_law : Sp3 := fun ds h Q => ds.length = 1 ∧ W_law { nx := fun _ h' => Q .non h', rt := Q } (startD ["_law_script", "_law_pen", "_law_turn", "_law_rules", "_law_bars", "_law_things", "_law_thing", "_law_seen", "_law_k"] ds) h
theorem len_law : ∀ ds h Q, sp_law ds h Q → ds.length = [("_law_script" : Str)].length := fun _ _ _ z => z.1
theorem w_law : ∀ ds h Q, sp_law ds h Q → W_law { nx := fun _ h' => Q .non h', rt := Q } (startD ["_law_script", "_law_pen", "_law_turn", "_law_rules", "_law_bars", "_law_things", "_law_thing", "_law_seen", "_law_k"] ds) h := fun _ _ _ z => z.2
end L44
namespace L44
open PySem L2 G3
set_option exponentiation.threshold 4000

theorem fresh_sp {n : Nat} {a : Addr} {h : Mh} {Q : Kd} (f : Feed h a n) (hn : n < 2 ^ 30) (q : ∀ r h', Feed h' a (n + 1) → Kp a h h' → Q (.int r) h') : sp_l_e_fresh [.ref a] h Q := by
  obtain ⟨cells, at_, left, e, h0, h1, hlen⟩ := f
  refine ⟨rfl, ?_⟩
  refine seq_step ?_
  simp [-gSeq, e]
  refine seq_step ?_
  simp [-gSeq, e]
  refine seq_step ?_
  simp [-gSeq, e]
  have d1 := dats_ints cells
  have d2 := deps_ints cells
  have ha : at_.natAbs < 2 ^ 30 := by omega
  have ha2 : (at_ * at_).natAbs < 2 ^ 60 := mulLt ha ha
  have ha3 : 0 ≤ at_ * at_ := Int.mul_nonneg h0 h0
  have qq : ∀ r, Q (.int r) (mput h a (Mo.lst [Dv.lst (List.map Dv.int cells), Dv.int (at_ + 1), Dv.int left])) := fun r => q r _ ⟨cells, _, _, mput_same, by omega, by omega, hlen⟩ (Kp.put _ _ _)
  generalize hh2 : mput h a (Mo.lst [Dv.lst (List.map Dv.int cells), Dv.int (at_ + 1), Dv.int left]) = h2 at qq
  have e2 : h2 a = some (Mo.lst [Dv.lst (List.map Dv.int cells), Dv.int (at_ + 1), Dv.int left]) := by rw [← hh2]; exact mput_same
  clear hh2 e q
  refine seq_cut (fun ρ' h' => ∃ c : Int, h' = h2 ∧ ρ' = [some (.ref a), some (.int at_), some (.int c), none, none, none, none]) (fun N2 hN2 => ?_) ?_
  · cases cells with
    | nil =>
      simp [-gSeq, e2]
      exact hN2 _ _ ⟨_, rfl, rfl⟩
    | cons c0 cs =>
      have hl : 0 < ((c0 :: cs).length : Int) := by simp only [List.length_cons]; omega
      obtain ⟨x, hx, _⟩ := atI_ok (xs := c0 :: cs) (Int.emod_nonneg (at_ * 7) (show ((c0 :: cs).length : Int) ≠ 0 by omega)) (Int.emod_lt_of_pos (at_ * 7) hl)
      have hx2 : atI (Dv.int c0 :: List.map Dv.int cs) (at_ * 7 % ((cs.length : Int) + 1)) = some (.int x) := by
        have := atI_map Dv.int (c0 :: cs) (at_ * 7 % (c0 :: cs).length)
        rw [hx] at this
        exact this
      simp [-gSeq, e2] at d1 d2 ⊢
      simp [d1, d2, hx2]
      have p1 : 0 < 1 + at_ / ((cs.length : Int) + 1) := by
        have := Int.ediv_nonneg h0 (show 0 ≤ (cs.length : Int) + 1 by omega)
        omega
      have p2 : at_ / ((cs.length : Int) + 1) ≤ at_ := Int.ediv_le_self _ h0
      simp only [List.length_cons] at hlen
      exact ⟨mulOk (by omega) (by decide), divOk (by omega) (by omega), divOk p1 (by omega), hN2 _ _ ⟨_, rfl, rfl⟩⟩
  · rintro _ _ ⟨c, eh, rfl⟩
    rw [eh]
    refine seq_cut (fun ρ' h' => ∃ c : Int, h' = h2 ∧ ρ' = [some (.ref a), some (.int at_), some (.int c), none, none, none, none]) (fun N2 hN2 => ?_) ?_
    · by_cases hl : at_ < cells.length
      · obtain ⟨x, hx, _⟩ := atI_ok h0 hl
        simp [-gSeq, e2, hl, Int.not_le.2 hl, hx]
        exact hN2 _ _ ⟨_, rfl, rfl⟩
      · simp [-gSeq, e2, hl, Int.not_lt.1 hl]
        exact hN2 _ _ ⟨_, rfl, rfl⟩
    rintro _ _ ⟨c, eh, rfl⟩
    rw [eh]
    refine seq_step ?_
    simp [-gSeq]
    refine ⟨⟨by decide, by decide, by decide⟩, ?_⟩
    by_cases hc : 1000000000000000000 ≤ c
    · simp [-gSeq, hc, Int.not_lt.2 hc]
      exact qq _
    simp [-gSeq, hc, Int.not_le.1 hc]
    refine seq_step ?_
    simp [-gSeq]
    obtain ⟨_, hm, m, rfl, m0, m1⟩ := atI_pick (xs := [Dv.int 2147483647, .int 2147483629, .int 2147483587, .int 2147483579, .int 2147483563, .int 2147483549, .int 2147483543]) (i := at_ % 7) (fun d => ∃ m, d = .int m ∧ 0 < m ∧ m < 2 ^ 31) (Int.emod_nonneg _ (by decide)) (Int.emod_lt_of_pos _ (by decide)) (by
      intro x hx
      simp at hx
      rcases hx with rfl | rfl | rfl | rfl | rfl | rfl | rfl <;> exact ⟨_, rfl, by decide, by decide⟩)
    refine ⟨_, hm, ?_⟩
    refine seq_step ?_
    simp [-gSeq]
    obtain ⟨_, hm2, m2, rfl, m20, m21⟩ := atI_pick (xs := [Dv.int 2147483497, .int 2147483489, .int 2147483477, .int 2147483423, .int 2147483399]) (i := at_ % 5) (fun d => ∃ m, d = .int m ∧ 0 < m ∧ m < 2 ^ 31) (Int.emod_nonneg _ (by decide)) (Int.emod_lt_of_pos _ (by decide)) (by
      intro x hx
      simp at hx
      rcases hx with rfl | rfl | rfl | rfl | rfl <;> exact ⟨_, rfl, by decide, by decide⟩)
    refine ⟨_, hm2, ?_⟩
    clear hm hm2
    refine seq_step ?_
    simp [-gSeq, m0]
    have a1 := Int.emod_nonneg c (show m ≠ 0 by omega)
    have a2 := Int.emod_lt_of_pos c m0
    have b1 := Int.emod_nonneg c (show m2 ≠ 0 by omega)
    have b2 := Int.emod_lt_of_pos c m20
    refine ⟨mulOk (by decide) (by omega), ⟨by decide, by decide, by omega⟩, ?_⟩
    refine seq_step ?_
    generalize hy : ((c % m + 31 * at_ + 5) ^ 5) % m = y
    have y1 : 0 ≤ y := by rw [← hy]; exact Int.emod_nonneg _ (by omega)
    have y2 : y < m := by rw [← hy]; exact Int.emod_lt_of_pos _ m0
    simp [-gSeq, m20]
    refine ⟨mulOk (by omega) (by omega), ⟨by decide, by decide, by omega⟩, ?_⟩
    refine ⟨mulOk (by omega) (by omega), qq _⟩
theorem take_sp {n : Nat} {a : Addr} {k : Int} {h : Mh} {Q : Kd} (f : Feed h a n) (hn : n < 2 ^ 30) (k0 : 0 < k) (k1 : k < 2 ^ 200) (q : ∀ r h', 0 ≤ r → r < k → Feed h' a (n + 1) → Kp a h h' → Q (.int r) h') : sp_l_e_take [.ref a, .int k] h Q := by
  have f0 := f
  obtain ⟨cells, at_, left, e, h0, h1, hlen⟩ := f
  refine ⟨rfl, ?_⟩
  refine seq_cut (fun ρ' h' => ∃ cells at' left', ρ' = [some (.ref a), some (.int k), none] ∧ h' a = some (.lst [.lst (List.map Dv.int cells), .int at', .int left']) ∧ 0 ≤ at' ∧ at' ≤ ((n + 1 : Nat) : Int) ∧ cells.length ≤ 60 ∧ Kp a h h') (fun N hN => ?_) ?_
  · by_cases hk : left < k
    · simp [-gSeq, e, hk, Int.not_le.2 hk]
      refine fresh_sp f0 hn fun r h' f' kp => ?_
      obtain ⟨cs, x, y, e2, g0, g1, g2⟩ := f'
      simp [e2]
      exact hN _ _ ⟨cs, x, r, rfl, mput_same, g0, g1, g2, kp.trans (Kp.put _ _ _)⟩
    · simp [-gSeq, e, hk, Int.not_lt.1 hk]
      exact hN _ _ ⟨_, _, _, rfl, e, h0, by omega, hlen, Kp.refl _ _⟩
  · rintro _ _ ⟨cells, at', left', rfl, e', g0, g1, g2, of⟩
    refine seq_step ?_
    simp [-gSeq, e', k0]
    refine seq_step ?_
    simp [-gSeq, e', k0]
    refine ⟨divOk k0 (by omega), q _ _ (Int.emod_nonneg _ (by omega)) (Int.emod_lt_of_pos _ k0) ⟨cells, at', left' / k, mput_same, g0, g1, g2⟩ (of.trans (Kp.put _ _ _))⟩
theorem mixed_sp {n : Nat} {a : Addr} {h : Mh} {Q : Kd} {es : List Dv} (f : Feed h a n) (hz : es.length ≤ 1000) (hn : n + es.length < 2 ^ 30)
    (q : ∀ ys h', ys.length = es.length → (∀ y ∈ ys, y ∈ es) → Feed h' a (n + es.length) → Kp a h h' → Q (.lst ys) h') : sp_l_e_mixed [.ref a, .lst es] h Q := by
  refine ⟨rfl, ?_⟩
  refine seq_step ?_
  simp [-gSeq]
  intro p hp
  have pa := f.ne hp
  have ez : sizeLine = 16777216 := by decide
  refine ⟨by omega, wLc_inv (· ∈ es) _ _ (fun i h' => ∃ left, h' p = some (.lst left) ∧ left.length = es.length - i ∧ (∀ y ∈ left, y ∈ es) ∧ Feed h' a (n + i) ∧ Kp a h h') _ ?_ ⟨es, mput_same, rfl, fun _ z => z, f.put pa.symm, Kp.new hp _ (Kp.refl _ _)⟩ (by rw [rng_len]; simp; omega) ?_⟩
  · rintro i d h' Q' R ⟨left, e, ll, al, f', kp⟩ hi q'
    have hi := (rng_get hi).1
    simp
    refine ⟨⟨left, e⟩, left, e, ?_⟩
    refine take_sp f' (by omega) (by omega) (by omega) fun r h2 r0 r1 f2 k2 => ?_
    have e2 := k2 p _ pa e
    have hr : r.toNat < left.length := by omega
    refine mPopAt_ok e2 r0 r1 (by omega) fun y hy => ?_
    refine q' _ _ (al _ hy) ⟨_, mput_same, ?_, fun y hy => al y (List.mem_of_mem_eraseIdx hy), (f2.put pa.symm).mono (by omega), Kp.new hp _ (kp.trans k2)⟩
    rw [List.length_eraseIdx]
    simp [hr]
    omega
  · rintro ys h' e al ⟨left, e2, ll, al2, f', kp⟩
    rw [rng_len] at e f'
    exact q ys h' (by simpa using e) al (by simpa using f') kp
end L44

namespace L44
open PySem L2 G3
set_option exponentiation.threshold 4000

def rowD (h : Str) (b : List Str) : Dv := .tup [.str h, .tup (b.map Dv.str)]
def IsRow (d : Dv) : Prop := ∃ h b, d = rowD h b ∧ b.length ≤ 4 ∧ Wd1 6 h ∧ ∀ w ∈ b, Wd1 6 w
def Wn (d : Dv) : Prop := ∃ z, d = .str z ∧ Wd1 6 z
theorem isRow0 {h : Str} (a : Wd1 6 h) : IsRow (.tup [.str h, .tup []]) := ⟨h, [], rfl, by decide, a, fun _ z => by cases z⟩
theorem isRow1 {h u : Str} (a : Wd1 6 h) (b : Wd1 6 u) : IsRow (.tup [.str h, .tup [.str u]]) := ⟨h, [u], rfl, by simp, a, fun w z => by
  simp at z
  rw [z]; exact b⟩
theorem isRow2 {h u v : Str} (a : Wd1 6 h) (b : Wd1 6 u) (c : Wd1 6 v) : IsRow (.tup [.str h, .tup [.str u, .str v]]) := ⟨h, [u, v], rfl, by simp, a, fun w z => by
  simp at z
  rcases z with rfl | rfl
  · exact b
  · exact c⟩
theorem isRow3 {h u v w : Str} (a : Wd1 6 h) (b : Wd1 6 u) (c : Wd1 6 v) (d : Wd1 6 w) : IsRow (.tup [.str h, .tup [.str u, .str v, .str w]]) := ⟨h, [u, v, w], rfl, by simp, a, fun y z => by
  simp at z
  rcases z with rfl | rfl | rfl
  · exact b
  · exact c
  · exact d⟩
theorem rows_sp {n : Nat} {p : Addr} {h : Mh} {Q : Kd} {s a b x y z : Str} (f : Feed h p n) (hn : n < 2 ^ 29) (ws : Wd1 6 s) (wa : Wd1 6 a) (wb : Wd1 6 b) (wx : Wd1 6 x) (wy : Wd1 6 y) (wz : Wd1 6 z)
    (q : ∀ rs h', (∀ r ∈ rs, IsRow r) → rs ≠ [] → rs.length ≤ 30 → Feed h' p (n + 200) → Kp p h h' → Q (.lst rs) h') : sp_l_e_rows [.ref p, .lst [.str s, .str a, .str b], .lst [.str x, .str y, .str z]] h Q := by
  refine ⟨rfl, ?_⟩
  have ez : sizeLine = 16777216 := by decide
  refine seq_step ?_
  simp [-gSeq]
  refine seq_step ?_
  simp [-gSeq]
  refine seq_step ?_
  simp [-gSeq]
  intro m hm
  have pm := f.ne hm
  refine seq_step ?_
  simp [-gSeq]
  refine seq_step ?_
  simp [-gSeq]
  refine seq_step ?_
  simp [-gSeq]
  refine seq_step ?_
  simp [-gSeq]
  refine seq_step ?_
  simp [-gSeq]
  refine take_sp (f.put pm.symm) (by omega) (by decide) (by decide) fun r h2 r0 r1 f2 k2 => ?_
  have k02 := (Kp.new hm _ (Kp.refl p h)).trans k2
  rw [rIx_ref]
  refine ⟨_, k2 m _ pm mput_same, ?_⟩
  refine pick_ix (fun d => ∃ rs, d = .lst rs ∧ (∀ r ∈ rs, IsRow r) ∧ 6 ≤ rs.length ∧ rs.length ≤ 7) r0 (by simp; omega) ?_ ?_
  · intro d hd
    simp only [List.mem_cons, List.not_mem_nil, or_false] at hd
    rcases hd with rfl | rfl | rfl | rfl | rfl
    all_goals
      refine ⟨_, rfl, fun r hr => ?_, by simp, by simp⟩
      simp only [List.mem_cons, List.not_mem_nil, or_false] at hr
      rcases hr with rfl | rfl | rfl | rfl | rfl | rfl | rfl
      all_goals first | exact isRow0 (by assumption) | exact isRow1 (by assumption) (by assumption) | exact isRow2 (by assumption) (by assumption) (by assumption) | exact isRow3 (by assumption) (by assumption) (by assumption) (by assumption)
  rintro _ ⟨rs, rfl, hrs, l6, l7⟩
  refine seq_step ?_
  simp [-gSeq]
  refine take_sp f2 (by omega) (by decide) (by decide) fun r2 h3 r20 r21 f3 k3 => ?_
  have k03 := k02.trans k3
  simp [-gSeq]
  by_cases hr2 : r2 = 0
  · simp [-gSeq, hr2]
    refine take_sp f3 (by omega) (by omega) (by omega) fun r4 h4 r40 r41 f4 k4 => ?_
    simp
    rw [cutD_to (by omega)]
    refine q _ _ (fun r hr => hrs r (List.mem_of_mem_take hr)) (fun e => ?_) (by rw [List.length_take]; omega) (f4.mono (by omega)) (k03.trans k4)
    have := congrArg List.length e
    rw [List.length_take] at this
    simp only [List.length_nil] at this
    omega
  simp [-gSeq, hr2]
  refine seq_step ?_
  simp [-gSeq]
  clear k2 k3 hrs l6 l7
  refine take_sp f3 (by omega) (by decide) (by decide) fun r5 h5 r50 r51 f5 k5 => ?_
  have k05 := k03.trans k5
  refine ⟨_, rfl, ?_⟩
  have names3 : ∀ d ∈ [Dv.str s, Dv.str a, Dv.str b], Wn d := fun d hd => by
    simp at hd
    rcases hd with rfl | rfl | rfl <;> exact ⟨_, rfl, by assumption⟩
  have signs3 : ∀ d ∈ [Dv.str x, Dv.str y, Dv.str z], Wn d := fun d hd => by
    simp at hd
    rcases hd with rfl | rfl | rfl <;> exact ⟨_, rfl, by assumption⟩
  have lc : (cutD [Dv.str s, Dv.str a, Dv.str b] none (some r5)).length ≤ 3 := cutD_len _ _ _
  refine wLc_inv IsRow _ _ (fun i h' => Feed h' p (n + 3 + i) ∧ Kp p h h') _ (fun i d h' Q' R hI hd q' => ?_) ⟨f5.mono (by omega), k05⟩ (by simp; omega) (fun rs h6 lr hrs hI => ?_)
  · obtain ⟨f6, k6⟩ := hI
    obtain ⟨z, rfl, wz⟩ := names3 d (cutD_mem (List.mem_of_getElem? hd))
    have hi := (List.getElem?_eq_some_iff.1 hd).1
    simp
    refine take_sp f6 (by omega) (by decide) (by decide) fun r7 h7 r70 r71 f7 k7 => ?_
    rw [rIx_lst]
    refine pick_ix Wn r70 (by simp; omega) signs3 ?_
    rintro _ ⟨u, rfl, wu⟩
    exact q' _ _ (isRow1 wz wu) ⟨f7.mono (by omega), k6.trans k7⟩
  obtain ⟨f6, k6⟩ := hI
  have f6 := f6.mono (m := n + 6) (by omega)
  intro m2 hm2
  simp only [List.nil_append]
  have pm2 := f6.ne hm2
  have hh2 : h m2 = none := by
    cases e : h m2 with
    | none => rfl
    | some o => rw [k6 m2 o pm2 e] at hm2; cases hm2
  have f8 := f6.put (o := .lst rs) pm2.symm
  have k8 := Kp.new hh2 (.lst rs) k6
  have e8 : mput h6 m2 (.lst rs) m2 = some (.lst rs) := mput_same
  generalize mput h6 m2 (.lst rs) = h8 at f8 k8 e8 ⊢
  have lrs : rs.length ≤ 3 := by omega
  clear lc
  refine seq_step ?_
  simp [-gSeq]
  refine take_sp f8 (by omega) (by decide) (by decide) fun r9 h9 r90 r91 f9 k9 => ?_
  rw [rIx_lst]
  refine pick_ix (fun d => ∃ k : Int, d = .int k ∧ 0 < k ∧ k ≤ 10) r90 (by simp; omega) (fun d hd => by
    simp at hd
    rcases hd with rfl | rfl <;> exact ⟨_, rfl, by decide, by decide⟩) ?_
  rintro _ ⟨k, rfl, k0, k1⟩
  refine take_sp f9 (by omega) (by omega) (by omega) fun r10 h10 r100 r101 f10 k10 => ?_
  simp [-gSeq]
  refine ⟨by omega, by omega, ?_⟩
  refine wFor_inv _ (fun i ρ' h' => ∃ rs v11 v12 v13 v14 v15, ρ' = [some (Dv.ref p), some (Dv.lst [Dv.str s, Dv.str a, Dv.str b]), some (Dv.lst [Dv.str x, Dv.str y, Dv.str z]), some (Dv.str s), some (Dv.str a), some (Dv.str b), some (Dv.str x), some (Dv.str y), some (Dv.str z),
      some (Dv.ref m), some (Dv.ref m2), v11, v12, v13, v14, v15] ∧ h' m2 = some (.lst rs) ∧ (∀ r ∈ rs, IsRow r) ∧ rs.length ≤ 3 + i ∧ (1 ≤ i → rs ≠ []) ∧ Feed h' p (n + 10 + 11 * i) ∧ Kp p h h') _ _ (fun i d ρ' h' N hI hd hN => ?_)
    ⟨rs, _, _, _, _, _, rfl, k10 _ _ pm2 (k9 _ _ pm2 e8), hrs, by omega, fun z => absurd z (by decide), f10.mono (by omega), (k8.trans k9).trans k10⟩ (fun ρ' h' hI => ?_)
  · obtain ⟨rs, v11, v12, v13, v14, v15, rfl, e, hrs, lrs, _, f11, k11⟩ := hI
    obtain ⟨hi, rfl⟩ := rng_get hd
    simp [-gSeq]
    refine seq_step ?_
    simp [-gSeq]
    refine take_sp f11 (by omega) (by decide) (by decide) fun r12 h12 r120 r121 f12 k12 => ?_
    have hmin : (if (1 : Int) < (i : Int) then (1 : Int) else (i : Int)) = 0 ∨ (if (1 : Int) < (i : Int) then (1 : Int) else (i : Int)) = 1 := by
      split <;> omega
    have e12 := k12 _ _ pm2 e
    rw [mul_int']
    generalize (if (1 : Int) < (i : Int) then (1 : Int) else (i : Int)) = mn at hmin
    have hmr : 0 ≤ mn * r12 ∧ mn * r12 < 3 := by
      rcases hmin with e | e <;> rw [e] <;> omega
    refine ⟨mulOk (by omega) (by omega), ?_⟩
    rw [rIx_lst]
    refine pick_ix Wn hmr.1 (by simp; omega) names3 ?_
    rintro _ ⟨hd, rfl, whd⟩
    refine seq_step ?_
    simp [-gSeq]
    refine seq_step ?_
    simp [-gSeq]
    refine take_sp f12 (by omega) (by decide) (by decide) fun r13 h13 r130 r131 f13 k13 => ?_
    rw [rIx_lst]
    refine pick_ix (fun d => ∃ k : Nat, d = .int k ∧ k ≤ 4) r130 (by simp; omega) (fun d hd => by
      simp at hd
      rcases hd with rfl | rfl | rfl | rfl | rfl
      · exact ⟨0, rfl, by decide⟩
      · exact ⟨1, rfl, by decide⟩
      · exact ⟨2, rfl, by decide⟩
      · exact ⟨3, rfl, by decide⟩
      · exact ⟨4, rfl, by decide⟩) ?_
    rintro _ ⟨kk, rfl, kk4⟩
    refine ⟨_, rfl, by omega, by omega, ?_⟩
    refine wFor_inv _ (fun j ρ' h' => ∃ bs v14, ρ' = [some (Dv.ref p), some (Dv.lst [Dv.str s, Dv.str a, Dv.str b]), some (Dv.lst [Dv.str x, Dv.str y, Dv.str z]), some (Dv.str s), some (Dv.str a), some (Dv.str b), some (Dv.str x), some (Dv.str y), some (Dv.str z),
        some (Dv.ref m), some (Dv.ref m2), some (Dv.int (i : Int)), some (.str hd), some (.tup (List.map Dv.str bs)), v14, v15] ∧ h' m2 = some (.lst rs) ∧ (∀ w ∈ bs, Wd1 6 w) ∧ bs.length ≤ j ∧ Feed h' p (n + 12 + 11 * i + 2 * j) ∧ Kp p h h') _ _ (fun j d ρ' h' N2 hI hd2 hN2 => ?_)
      ⟨[], _, rfl, k13 _ _ pm2 e12, (fun _ z => by cases z), Nat.le_refl _, f13.mono (by omega), (k11.trans k12).trans k13⟩ (fun ρ' h' hI => ?_)
    · obtain ⟨bs, v14, rfl, e, hbs, lbs, f14, k14⟩ := hI
      have hj := (rng_get hd2).1
      simp [-gSeq]
      refine take_sp f14 (by omega) (by decide) (by decide) fun r15 h15 r150 r151 f15 k15 => ?_
      rw [rIx_lst]
      refine pick_ix (fun d => ∃ ws, d = .lst ws ∧ ws.length = 3 ∧ ∀ w ∈ ws, Wn w) r150 (by simp; omega) (fun d hd => by
        simp at hd
        rcases hd with rfl | rfl
        · exact ⟨_, rfl, rfl, names3⟩
        · exact ⟨_, rfl, rfl, signs3⟩) ?_
      rintro _ ⟨wsl, rfl, l3, hws⟩
      refine take_sp f15 (by omega) (by decide) (by decide) fun r16 h16 r160 r161 f16 k16 => ?_
      rw [rIx_lst]
      refine pick_ix Wn r160 (by omega) hws ?_
      rintro _ ⟨u, rfl, wu⟩
      refine ⟨by omega, hN2 _ _ ⟨bs ++ [u], some d, by simp, k16 _ _ pm2 (k15 _ _ pm2 e), fun w hw => ?_, by simp; omega, f16.mono (by omega), (k14.trans k15).trans k16⟩⟩
      rcases List.mem_append.1 hw with h | h
      · exact hbs w h
      · simp at h
        rw [h]; exact wu
    · obtain ⟨bs, v14, rfl, e, hbs, lbs, f14, k14⟩ := hI
      rw [rng_len] at lbs f14
      simp at lbs f14
      simp [-gSeq]
      refine ⟨⟨rs, e⟩, rs, e, by omega, hN _ _ ⟨rs ++ [rowD hd bs], _, _, _, _, _, rfl, mput_same, fun r hr => ?_, by simp; omega, fun _ => by simp, (f14.put pm2.symm).mono (by omega), Kp.new hh2 _ k14⟩⟩
      rcases List.mem_append.1 hr with h | h
      · exact hrs r h
      · simp at h
        rw [h]; exact ⟨hd, bs, rfl, by omega, whd, hbs⟩
  · obtain ⟨rs, v11, v12, v13, v14, v15, rfl, e, hrs, lrs, nrs, f11, k11⟩ := hI
    rw [rng_len] at lrs nrs f11
    simp
    refine ⟨rs, e, q _ _ hrs (nrs (by omega)) (by omega) ((f11.del pm2.symm).mono (by omega)) (Kp.del hh2 k11)⟩
end L44

namespace L44
open PySem L2 G3
set_option exponentiation.threshold 4000

theorem IsRow.nic {d : Dv} (r : IsRow d) : Nic 2 50 d := by
  obtain ⟨h, b, rfl, l, wh, wb⟩ := r
  have n1 : Nic 1 28 (.tup (b.map Dv.str)) := (nic_tup' (D := 0) (W := 6) (m := 4) (fun d hd => by
    obtain ⟨z, hz, rfl⟩ := List.mem_map.1 hd
    exact nic_str (wb z hz)) (by simpa using l)).mono (by omega) (by omega)
  refine ⟨?_, ?_, ?_⟩
  · have a1 : smal (.str h) = true := (nic_str wh).sm
    have a2 : smal (.tup (b.map Dv.str)) = true := n1.sm
    show (smal (.str h) && (smal (.tup (b.map Dv.str)) && true)) = true
    rw [a1, a2]
    rfl
  · have := n1.dp
    simp [rowD] at this ⊢
  · have := n1.wt
    have := wh.1
    simp only [rowD, wt, wts] at *
    omega
theorem IsRow.dat {d : Dv} (r : IsRow d) : dat d = true := (smal_of d r.nic.sm).1
theorem rows_dat : ∀ {ds : List Dv}, (∀ d ∈ ds, IsRow d) → dats ds = true
  | [], _ => rfl
  | d :: ds, h => by simp [(h d List.mem_cons_self).dat, rows_dat fun e he => h e (List.mem_cons_of_mem _ he)]
theorem take3 {zs : List Str} (h : 3 ≤ zs.length) (P : Str → Prop) (hp : ∀ z ∈ zs, P z) : ∃ a b c, cutD (zs.map Dv.str) none (some 3) = [.str a, .str b, .str c] ∧ P a ∧ P b ∧ P c := by
  rw [cutD_to (by decide)]
  match zs, h with
  | a :: b :: c :: r, _ => exact ⟨a, b, c, rfl, hp a (by simp), hp b (by simp), hp c (by simp)⟩
theorem rules_sp {n : Nat} {p : Addr} {h : Mh} {Q : Kd} (f : Feed h p n) (hn : n < 2 ^ 28)
    (q : ∀ top rs h', Wd1 6 top → (∀ r ∈ rs, IsRow r) → rs ≠ [] → rs.length ≤ 16 → Feed h' p (n + 300) → Kp p h h' → Q (.tup [.str top, .tup rs]) h') : sp_l_e_rules [.ref p] h Q := by
  refine ⟨rfl, ?_⟩
  refine seq_step ?_
  simp [-gSeq]
  refine mixed_sp f (by simp) (by simp; omega) fun ys h1 ly my f1 k1 => ?_
  obtain ⟨zs, rfl, hzs⟩ := strs_pick (Wd1 6) (fun e he => by
    simp only [List.mem_cons, List.not_mem_nil, or_false] at he
    rcases he with rfl | rfl | rfl | rfl | rfl | rfl | rfl | rfl <;> exact ⟨_, rfl, by decide +kernel, by decide +kernel⟩) my
  simp at ly f1
  obtain ⟨s, a, b, e3, ws, wa, wb⟩ := take3 (by omega) (Wd1 6) hzs
  simp [-gSeq, e3]
  refine seq_step ?_
  simp [-gSeq]
  refine mixed_sp f1 (by simp) (by simp; omega) fun ys h2 ly2 my2 f2 k2 => ?_
  obtain ⟨us, rfl, hus⟩ := strs_pick (Wd1 6) (fun e he => by
    simp only [List.mem_cons, List.not_mem_nil, or_false] at he
    rcases he with rfl | rfl | rfl | rfl | rfl | rfl | rfl | rfl | rfl <;> exact ⟨_, rfl, by decide +kernel, by decide +kernel⟩) my2
  simp at ly2 f2
  obtain ⟨x, y, z, e4, wx, wy, wz⟩ := take3 (by omega) (Wd1 6) hus
  simp [-gSeq, e4]
  clear e3 e4 my my2 hzs hus
  refine seq_step ?_
  simp [-gSeq]
  intro m hm
  have pm := f2.ne hm
  have k02 := k1.trans k2
  have hhm : h m = none := by
    cases e : h m with
    | none => rfl
    | some o => rw [k02 m o pm e] at hm; cases hm
  refine seq_step ?_
  simp [-gSeq]
  refine rows_sp (f2.put pm.symm) (by omega) ws wa wb wx wy wz fun rs h3 hrs nrs lrs f3 k3 => ?_
  have e3 := k3 m _ pm mput_same
  refine mixed_sp f3 (by omega) (by omega) fun qs h4 lq mq f4 k4 => ?_
  have e4 := k4 m _ pm e3
  have k04 := ((Kp.new hhm _ k02).trans k3).trans k4
  simp [-gSeq]
  have hlq : 0 < qs.length := by
    rw [lq]
    exact List.length_pos_iff.2 nrs
  refine wFor_inv _ (fun i ρ' h' => ∃ fs v4, ρ' = [some (.ref p), some (.lst [.str s, .str a, .str b]), some (.lst [.str x, .str y, .str z]), some (.ref m), v4] ∧ h' m = some (.lst fs) ∧ (∀ r ∈ fs, IsRow r) ∧ fs.length ≤ 16 ∧ (1 ≤ i → fs ≠ []) ∧ Feed h' p (n + 300) ∧ Kp p h h') _ _ (fun i d ρ' h' N hI hd hN => ?_)
    ⟨[], _, rfl, e4, (fun _ z => by cases z), Nat.zero_le _, fun z => absurd z (by decide), f4.mono (by omega), k04⟩ (fun ρ' h' hI => ?_)
  · obtain ⟨fs, v4, rfl, e, hfs, lfs, nfs, f5, k5⟩ := hI
    have rd := hrs d (mq d (List.mem_of_getElem? hd))
    have dd := rd.dat
    have dp := rd.nic.dp
    simp [-gSeq, -isIn]
    refine ⟨fs, e, ⟨dd, rows_dat hfs, by omega⟩, ?_⟩
    cases hin : isIn d fs
    · refine .inr ⟨rfl, fs, e, ?_⟩
      by_cases hl : fs.length < 16
      · refine .inr ⟨by omega, ⟨fs, e⟩, fs, e, by omega, hN _ _ ⟨fs ++ [d], _, rfl, mput_same, fun r hr => ?_, by simp; omega, fun _ => by simp, f5.put pm.symm, Kp.new hhm _ k5⟩⟩
        rcases List.mem_append.1 hr with h | h
        · exact hfs r h
        · simp at h
          rw [h]; exact rd
      · exact .inl ⟨by omega, hN _ _ ⟨fs, _, rfl, e, hfs, lfs, (fun _ z => by rw [z] at hl; exact hl (by decide)), f5, k5⟩⟩
    · exact .inl ⟨rfl, hN _ _ ⟨fs, _, rfl, e, hfs, lfs, (fun _ z => by rw [z] at hin; cases hin), f5, k5⟩⟩
  · obtain ⟨fs, v4, rfl, e, hfs, lfs, nfs, f5, k5⟩ := hI
    simp
    exact ⟨fs, e, q s fs h' ws hfs (nfs hlq) lfs f5 k5⟩

def IsF (d : Dv) : Prop := ∃ i j k : Nat, d = .tup [.int i, .int j, .int k] ∧ i < 16 ∧ j < 4 ∧ k < 16
theorem numd_mem {i : Nat} {ds : List Dv} {d : Dv} {k : Nat} (h : (numd i ds)[k]? = some d) : k < ds.length ∧ ∃ e, ds[k]? = some e ∧ d = .tup [.int ((i + k : Nat) : Int), e] := by
  rw [numd_get] at h
  cases e : ds[k]? with
  | none => rw [e] at h; cases h
  | some x =>
    rw [e] at h
    cases h
    exact ⟨(List.getElem?_eq_some_iff.1 e).1, x, rfl, rfl⟩
/-- a comprehension with a test: some things of P, not more than walked -/
theorem wLc_P {vs : List Nat} {gg : GG} {gt : GT} {ge : GE} {ρ : Sl} {h : Mh} (P : Dv → Prop) {Q : List Dv → Mh → Prop} : ∀ (ds acc : List Dv) (o : Nat),
    (∀ (i : Nat) d Q' R, ds[i]? = some d → (∀ y, P y → Q' y h) → R h → stepLc gg gt ge (wipD ρ vs) d h Q' R) → acc.length + ds.length ≤ sizeLine → (∀ ys, ys.length ≤ ds.length → (∀ y ∈ ys, P y) → Q (acc ++ ys) h) → wLc vs gg gt ge ρ ds acc h Q
  | [], acc, o, _, _, q => by
    have := q [] (Nat.le_refl _) (fun _ z => by cases z)
    rwa [List.append_nil] at this
  | d :: ds, acc, o, hs, hl, q => by
    rw [List.length_cons] at hl
    refine hs 0 d _ _ rfl (fun y py => ⟨by omega, wLc_P P ds (acc ++ [y]) o (fun i d' Q' R a b c => hs (i + 1) d' Q' R a b c) (by rw [List.length_append, List.length_singleton]; omega) fun ys l al => ?_⟩)
      (wLc_P P ds acc o (fun i d' Q' R a b c => hs (i + 1) d' Q' R a b c) (by omega) fun ys l al => q ys (by rw [List.length_cons]; omega) al)
    have := q (y :: ys) (by rw [List.length_cons, List.length_cons]; omega) (fun z hz => by
      rcases List.mem_cons.1 hz with e | e
      · rw [e]; exact py
      · exact al z e)
    rwa [List.append_cons] at this
theorem IsF.nic {d : Dv} (r : IsF d) : Nic 1 18 d := by
  obtain ⟨i, j, k, rfl, hi, hj, hk⟩ := r
  have n3 : ∀ e ∈ [Dv.int (i : Int), .int (j : Int), .int (k : Int)], Nic 0 5 e := fun e he => by
    simp at he
    rcases he with rfl | rfl | rfl <;> exact nic_intB (k := 4) (by omega) (by omega)
  exact (nic_tup n3).mono (by omega) (by simp)
theorem forbids_sp {n : Nat} {p : Addr} {h : Mh} {Q : Kd} {top : Str} {rs : List Dv} (f : Feed h p n) (hn : n < 2 ^ 29) (hrs : ∀ r ∈ rs, IsRow r) (lrs : rs.length ≤ 16)
    (q : ∀ fs h', (∀ d ∈ fs, IsF d) → fs.length ≤ 9 → Feed h' p (n + 20) → Kp p h h' → Q (.tup fs) h') : sp_l_e_forbids [.ref p, .tup [.str top, .tup rs]] h Q := by
  refine ⟨rfl, ?_⟩
  refine seq_step ?_
  simp [-gSeq]
  intro m hm
  have pm := f.ne hm
  refine seq_step ?_
  simp [-gSeq]
  refine wFor_inv _ (fun i ρ' h' => ∃ ev v3 v4 v5 v6 v8, ρ' = [some (.ref p), some (.tup [.str top, .tup rs]), some (.ref m), v3, v4, v5, v6, none, v8, none, none] ∧ h' m = some (.lst ev) ∧ (∀ e ∈ ev, IsF e) ∧ ev.length ≤ 64 * i ∧ Feed h' p n ∧ Kp p h h') _ _ (fun i d ρ' h' N hI hd hN => ?_)
    ⟨[], _, _, _, _, _, rfl, mput_same, (fun _ z => by cases z), Nat.zero_le _, f.put pm.symm, Kp.new hm _ (Kp.refl _ _)⟩ (fun ρ' h' hI => ?_)
  · obtain ⟨ev, v3, v4, v5, v6, v8, rfl, e, hev, lev, f1, k1⟩ := hI
    obtain ⟨hi, r, hr, rfl⟩ := numd_mem hd
    obtain ⟨hd', b, rfl, lb, wh, wb⟩ := hrs r (List.mem_of_getElem? hr)
    simp [-gSeq, rowD]
    refine wFor_inv _ (fun j ρ' h' => ∃ ev v5 v6, ρ' = [some (.ref p), some (.tup [.str top, .tup rs]), some (.ref m), some (.int (i : Int)), some (Dv.tup [Dv.str hd', Dv.tup (List.map Dv.str b)]), v5, v6, none, v8, none, none] ∧ h' m = some (.lst ev) ∧ (∀ e ∈ ev, IsF e) ∧ ev.length ≤ 64 * i + 16 * j ∧ Feed h' p n ∧ Kp p h h') _ _ (fun j d ρ' h' N2 hI hd2 hN2 => ?_)
      ⟨ev, _, _, rfl, e, hev, by omega, f1, k1⟩ (fun ρ' h' hI => ?_)
    · obtain ⟨ev, v5, v6, rfl, e, hev, lev, f1, k1⟩ := hI
      obtain ⟨hj, w, hw, rfl⟩ := numd_mem hd2
      rw [List.getElem?_map] at hw
      cases hb : b[j]? with
      | none => rw [hb] at hw; cases hw
      | some w' =>
        rw [hb] at hw
        cases hw
        simp [-gSeq]
        refine ⟨⟨ev, e⟩, ?_⟩
        simp at hj
        refine wLc_P IsF _ _ 0 (fun k d Q' R hd3 q1 q2 => ?_) (by simp [numd_len]; omega) (fun ys lys al => ?_)
        · obtain ⟨hk, r2, hr2, rfl⟩ := numd_mem hd3
          obtain ⟨h2, b2, rfl, lb2, wh2, wb2⟩ := hrs r2 (List.mem_of_getElem? hr2)
          simp [rowD]
          by_cases hq : h2 = w'
          · simp [hq]
            exact q1 _ ⟨i, j, k, rfl, by omega, by omega, by omega⟩
          · simp [hq]
            exact q2
        · rw [numd_len] at lys
          simp
          refine ⟨ev, e, by omega, hN2 _ _ ⟨ev ++ ys, _, _, rfl, mput_same, fun z hz => ?_, by simp; omega, f1.put pm.symm, Kp.new hm _ k1⟩⟩
          rcases List.mem_append.1 hz with h | h
          · exact hev z h
          · exact al z h
    · obtain ⟨ev, v5, v6, rfl, e, hev, lev, f1, k1⟩ := hI
      rw [numd_len] at lev
      simp at lev
      exact hN _ _ ⟨ev, _, _, _, _, _, rfl, e, hev, by omega, f1, k1⟩
  · obtain ⟨ev, v3, v4, v5, v6, v8, rfl, e, hev, lev, f1, k1⟩ := hI
    rw [numd_len] at lev
    simp [-gSeq]
    refine seq_step ?_
    simp [-gSeq]
    refine seq_step ?_
    simp [-gSeq]
    refine take_sp f1 (by omega) (by decide) (by decide) fun r h2 r0 r1 f2 k2 => ?_
    rw [rIx_lst]
    refine pick_ix (fun d => ∃ k : Nat, d = .int k ∧ k ≤ 9) r0 (by simp; omega) (fun d hd => by
      simp at hd
      rcases hd with rfl | rfl | rfl | rfl | rfl
      · exact ⟨0, rfl, by decide⟩
      · exact ⟨1, rfl, by decide⟩
      · exact ⟨2, rfl, by decide⟩
      · exact ⟨4, rfl, by decide⟩
      · exact ⟨9, rfl, by decide⟩) ?_
    rintro _ ⟨kk, rfl, kk9⟩
    refine ⟨_, rfl, by omega, by omega, ?_⟩
    have e2 := k2 m _ pm e
    have dv : dats ev = true := by
      have : ∀ {l : List Dv}, (∀ e ∈ l, IsF e) → dats l = true := fun {l} h => by
        induction l with
        | nil => rfl
        | cons a r ih => simp [(smal_of a (h a List.mem_cons_self).nic.sm).1, ih fun e he => h e (List.mem_cons_of_mem _ he)]
      exact this hev
    have pv : deps ev ≤ 1 := by
      have : ∀ {l : List Dv}, (∀ e ∈ l, IsF e) → deps l ≤ 1 := fun {l} h => by
        induction l with
        | nil => exact Nat.zero_le _
        | cons a r ih =>
          have h1 := (h a List.mem_cons_self).nic.dp
          have h2 := ih fun e he => h e (List.mem_cons_of_mem _ he)
          simp only [deps]
          omega
      exact this hev
    refine wFor_inv _ (fun j ρ' h' => ∃ fs v8, ρ' = [some (.ref p), some (.tup [.str top, .tup rs]), some (.ref m), v3, v4, v5, v6, some (.tup fs), v8, none, none] ∧ h' m = some (.lst ev) ∧ (∀ e ∈ fs, IsF e) ∧ fs.length ≤ j ∧ Feed h' p (n + 1 + j) ∧ Kp p h h') _ _ (fun j d ρ' h' N2 hI hd2 hN2 => ?_)
      ⟨[], _, rfl, e2, (fun _ z => by cases z), Nat.le_refl _, f2, k1.trans k2⟩ (fun ρ' h' hI => ?_)
    · obtain ⟨fs, v8, rfl, e, hfs, lfs, f3, k3⟩ := hI
      have hj := (rng_get hd2).1
      simp
      refine rEqR_ref e dv (by simp) (by omega) ?_
      cases ev with
      | nil =>
        simp
        exact hN2 _ _ ⟨fs, _, rfl, e, hfs, by omega, f3.mono (by omega), k3⟩
      | cons e0 er =>
        simp
        refine ⟨_, e, ?_⟩
        refine take_sp f3 (by omega) (by simp only [List.length_cons]; omega) (by simp only [List.length_cons] at lev ⊢; omega) fun r5 h5 r50 r51 f5 k5 => ?_
        rw [rIx_ref]
        refine ⟨_, k5 m _ pm e, pick_ix IsF r50 (by simpa using r51) hev ?_⟩
        intro d hd
        refine ⟨by omega, hN2 _ _ ⟨fs ++ [d], _, rfl, k5 m _ pm e, fun z hz => ?_, by simp; omega, f5.mono (by omega), k3.trans k5⟩⟩
        rcases List.mem_append.1 hz with h | h
        · exact hfs z h
        · simp at h
          rw [h]; exact hd
    · obtain ⟨fs, v8, rfl, e, hfs, lfs, f3, k3⟩ := hI
      rw [rng_len] at lfs f3
      simp at lfs f3
      simp
      exact q fs h' hfs (by omega) (f3.mono (by omega)) k3
end L44

namespace L44
open PySem L2 G3
set_option exponentiation.threshold 4000

def isWhole : Dv → Bool
  | .int _ => true
  | _ => false
theorem is_whole_sp {D W : Nat} {d : Dv} {h : Mh} {Q : Kd} (n : Nic D W d) (q : Q (.bl (isWhole d)) h) : sp_is_whole [d] h Q := by
  refine ⟨rfl, ?_⟩
  have := n.sm
  cases d with
  | ref a => simp [smal] at this
  | obj a => simp [smal] at this
  | ty a => simp [smal] at this
  | _ => simpa [W_is_whole, isWhole] using q
theorem e_whole_sp {D W : Nat} {d : Dv} {h : Mh} {Q : Kd} (n : Nic D W d) (q : Q (.bl (isWhole d)) h) : sp_l_e_whole [d] h Q := by
  refine ⟨rfl, ?_⟩
  have := n.sm
  cases d with
  | ref a => simp [smal] at this
  | obj a => simp [smal] at this
  | ty a => simp [smal] at this
  | _ => simpa [W_l_e_whole, isWhole] using q
def headOf : Dv → Dv
  | .tup [h, _] => h
  | _ => .non
def bodyOf : Dv → List Dv
  | .tup [_, .tup b] => b
  | _ => []
def isF3 (rs : List Dv) (a b c : Int) : Bool := decide (0 ≤ a ∧ a < rs.length) && (decide (0 ≤ c ∧ c < rs.length) && (decide (0 ≤ b ∧ b < (bodyOf (rs.getD a.toNat .non)).length) && deq ((bodyOf (rs.getD a.toNat .non)).getD b.toNat .non) (headOf (rs.getD c.toNat .non))))
def isFz (rs : List Dv) (x y z : Dv) : Bool := match x with
  | .int a => match y with
    | .int b => match z with
      | .int c => isF3 rs a b c
      | _ => false
    | _ => false
  | _ => false
def isFt (rs : List Dv) : List Dv → Bool
  | [x, y, z] => isFz rs x y z
  | _ => false
def isForbid (rs : List Dv) (d : Dv) : Bool := match d with
  | .tup ds => isFt rs ds
  | _ => false
theorem three {ds : List Dv} (h : ds.length = 3) : ∃ x y z, ds = [x, y, z] := by
  match ds, h with
  | [x, y, z], _ => exact ⟨x, y, z, rfl⟩
theorem whole_int {d : Dv} (h : isWhole d = true) : ∃ i, d = .int i := by
  cases d with
  | int i => exact ⟨i, rfl⟩
  | _ => cases h
theorem isForbid_no3 {rs ds : List Dv} (h : ds.length ≠ 3) : isForbid rs (.tup ds) = false := by
  match ds, h with
  | [], _ => rfl
  | [_], _ => rfl
  | [_, _], _ => rfl
  | _ :: _ :: _ :: _ :: _, _ => rfl
  | [_, _, _], h => exact absurd rfl h
theorem isForbid_no {rs : List Dv} {x y z : Dv} (h : (isWhole x && (isWhole y && isWhole z)) = false) : isForbid rs (.tup [x, y, z]) = false := by
  cases x <;> first | rfl | skip
  cases y <;> first | rfl | skip
  cases z <;> first | rfl | skip
  simp [isWhole] at h
theorem row_at {rs : List Dv} (hrs : ∀ r ∈ rs, IsRow r) {a : Int} (h0 : 0 ≤ a) (h1 : a < rs.length) : ∃ (h : Str) (b : List Str), atI rs a = some (.tup [.str h, .tup (b.map Dv.str)]) ∧ rs.getD a.toNat .non = .tup [.str h, .tup (b.map Dv.str)] := by
  have hl : a.toNat < rs.length := by omega
  obtain ⟨h, b, e, _⟩ := hrs _ (List.getElem_mem hl)
  refine ⟨h, b, ?_, ?_⟩
  · have e1 : ixN rs.length a = some a.toNat := by
      unfold ixN
      rw [if_pos h0, if_pos h1]
    unfold atI
    rw [e1]
    show rs[a.toNat]? = _
    rw [List.getElem?_eq_getElem hl, e]
    rfl
  · rw [List.getD_eq_getElem?_getD, List.getElem?_eq_getElem hl, e]
    rfl
theorem f3_walk {rs : List Dv} (hrs : ∀ r ∈ rs, IsRow r) {a b c : Int} {h : Mh} {F : Mh → Prop} {R : Dv → Dv → Mh → Prop} (hR : ∀ w h2 : Str, isF3 rs a b c = (w == h2) → R (.str w) (.str h2) h) (hF : isF3 rs a b c = false → F h) :
    a < 0 ∧ F h ∨ 0 ≤ a ∧ ((rs.length : Int) ≤ a ∧ F h ∨ a < rs.length ∧ (c < 0 ∧ F h ∨ 0 ≤ c ∧ ((rs.length : Int) ≤ c ∧ F h ∨ c < rs.length ∧ (b < 0 ∧ F h ∨ 0 ≤ b ∧ ∃ d, atI rs a = some d ∧ G3.rIxD d (.int 1) h fun d h1 => cLen [d] h1 fun u h4 => ∃ x, u = .int x ∧ (x ≤ b ∧ F h4 ∨ b < x ∧
      ∃ d, atI rs a = some d ∧ G3.rIxD d (.int 1) h4 fun x h1 => G3.rIxD x (.int b) h1 fun x h1 => ∃ d, atI rs c = some d ∧ G3.rIxD d (.int 0) h1 fun y h2 => R x y h2))))) := by
  by_cases a0 : 0 ≤ a
  · refine .inr ⟨a0, ?_⟩
    by_cases a1 : a < rs.length
    · refine .inr ⟨a1, ?_⟩
      by_cases c0 : 0 ≤ c
      · refine .inr ⟨c0, ?_⟩
        by_cases c1 : c < rs.length
        · refine .inr ⟨c1, ?_⟩
          obtain ⟨h1, b1, e1, g1⟩ := row_at hrs a0 a1
          obtain ⟨h2, b2, e2, g2⟩ := row_at hrs c0 c1
          by_cases b0 : 0 ≤ b
          · refine .inr ⟨b0, ?_⟩
            simp [e1, e2]
            by_cases b1' : b < b1.length
            · refine .inr ⟨b1', ?_⟩
              obtain ⟨w, hw, mw⟩ := atI_ok b0 b1'
              refine ⟨_, ⟨w, hw, rfl⟩, ?_⟩
              have gw : (b1.map Dv.str).getD b.toNat .non = .str w := by
                have : atI b1 b = b1[b.toNat]? := by
                  unfold atI ixN
                  rw [if_pos b0, if_pos b1']
                  rfl
                rw [this] at hw
                simp [List.getD_eq_getElem?_getD, List.getElem?_map, hw]
              have e : isF3 rs a b c = (w == h2) := by
                simp only [isF3, g1, g2, bodyOf, headOf, gw, deq]
                simp [a0, a1, c0, c1, b0, b1']
              exact hR w h2 e
            · have e : isF3 rs a b c = false := by
                simp only [isF3, g1, bodyOf]
                simp
                intros
                omega
              exact .inl ⟨by omega, hF e⟩
          · have e : isF3 rs a b c = false := by simp [isF3, b0]
            exact .inl ⟨by omega, hF e⟩
        · have e : isF3 rs a b c = false := by simp [isF3, c1]
          exact .inl ⟨by omega, hF e⟩
      · have e : isF3 rs a b c = false := by simp [isF3, c0]
        exact .inl ⟨by omega, hF e⟩
    · have e : isF3 rs a b c = false := by simp [isF3, a1]
      exact .inl ⟨by omega, hF e⟩
  · have e : isF3 rs a b c = false := by simp [isF3, a0]
    exact .inl ⟨by omega, hF e⟩
theorem wts_len : ∀ ds : List Dv, ds.length ≤ wts ds
  | [] => Nat.zero_le _
  | d :: ds => by
    have := wts_len ds
    simp only [wts, List.length_cons]
    omega
theorem is_forbid_sp {D W : Nat} {d : Dv} {h : Mh} {Q : Kd} {top : Str} {rs : List Dv} (n : Nic D W d) (hrs : ∀ r ∈ rs, IsRow r) (hl : ∀ ds, d = .tup ds → ds.length ≤ 100000) (q : Q (.bl (isForbid rs d)) h) : sp_is_forbid [.tup [.str top, .tup rs], d] h Q := by
  refine ⟨rfl, ?_⟩
  obtain ⟨t, ht⟩ := n.ty h
  refine seq_step ?_
  by_cases hs : ∃ ds, d = .tup ds
  · obtain ⟨ds, rfl⟩ := hs
    have hz := hl ds rfl
    simp [-gSeq]
    by_cases h3 : ds.length = 3
    · obtain ⟨x, y, z, rfl⟩ := three h3
      have nx := n.tup x (by simp)
      have ny := n.tup y (by simp)
      have nz := n.tup z (by simp)
      simp [-gSeq]
      refine is_whole_sp nx (is_whole_sp ny (is_whole_sp nz ?_))
      refine ⟨_, [isWhole x, isWhole y, isWhole z], rfl, rfl, ?_⟩
      have ea : ([isWhole x, isWhole y, isWhole z].all fun b => b) = (isWhole x && (isWhole y && isWhole z)) := by simp
      rw [ea]
      cases hw : (isWhole x && (isWhole y && isWhole z))
      · rw [isForbid_no hw] at q
        exact .inl ⟨rfl, q⟩
      · simp at hw
        obtain ⟨a, rfl⟩ := whole_int hw.1
        obtain ⟨b, rfl⟩ := whole_int hw.2.1
        obtain ⟨c, rfl⟩ := whole_int hw.2.2
        refine .inr ⟨rfl, ?_⟩
        refine seq_step ?_
        simp [-gSeq]
        refine seq_step ?_
        simp [-gSeq]
        refine seq_step ?_
        simp [-gSeq]
        have q : Q (.bl (isF3 rs a b c)) h := q
        refine f3_walk hrs (F := Q (.bl false)) (R := fun x y h2 => (dat x = true ∧ dep x ≤ 60) ∧ (dat y = true ∧ dep y ≤ 60) ∧ Q (.bl (deq x y)) h2) (fun w h2 e => ?_) fun e => by rw [e] at q; exact q
        rw [e] at q
        exact ⟨⟨rfl, by simp⟩, ⟨rfl, by simp⟩, q⟩
    · have h3' : ¬ (ds.length : Int) = 3 := by omega
      rw [isForbid_no3 h3] at q
      simp [-gSeq, h3']
      exact q
  · have e : isForbid rs d = false := by
      cases d with
      | tup ds => exact absurd ⟨ds, rfl⟩ hs
      | _ => rfl
    rw [e] at q
    simp [-gSeq, ht, ty_tup ht hs, q]

def areForbids (rs : List Dv) (d : Dv) : Bool := match d with
  | .tup ds => decide (ds.length ≤ 512) && ds.all (isForbid rs)
  | _ => false
/-- a loop that returns False at the first that p says no of -/
theorem wFor_all {gg : GG} {b : GS} {E : En} {h : Mh} (p : Dv → Bool) (I : Sl → Prop) : ∀ (ds : List Dv) (ρ : Sl), (∀ d ∈ ds, ∀ ρ N, I ρ → (p d = true → ∀ ρ', I ρ' → N ρ' h) → (p d = false → E.rt (.bl false) h) → gg d ρ h fun ρ1 h1 => b { E with nx := N, ct := N, bk := E.nx } ρ1 h1) →
    I ρ → (ds.all p = false → E.rt (.bl false) h) → (ds.all p = true → ∀ ρ', I ρ' → E.nx ρ' h) → wFor gg b ds E ρ h
  | [], ρ, _, i, _, y => y rfl ρ i
  | d :: ds, ρ, hs, i, n, y => by
    refine hs d List.mem_cons_self ρ (wFor gg b ds E) i (fun hp ρ' i' => wFor_all p I ds ρ' (fun e he => hs e (List.mem_cons_of_mem _ he)) i' (fun z => n ?_) fun z => y ?_) fun hp => n ?_
    · rw [List.all_cons, z, Bool.and_false]
    · rw [List.all_cons, hp, z]; rfl
    · rw [List.all_cons, hp, Bool.false_and]
theorem are_forbids_sp {D W : Nat} {d : Dv} {h : Mh} {Q : Kd} {top : Str} {rs : List Dv} (n : Nic D W d) (hrs : ∀ r ∈ rs, IsRow r) (hl : W ≤ 100000) (q : Q (.bl (areForbids rs d)) h) : sp_are_forbids [.tup [.str top, .tup rs], d] h Q := by
  refine ⟨rfl, ?_⟩
  obtain ⟨t, ht⟩ := n.ty h
  refine seq_step ?_
  by_cases hs : ∃ ds, d = .tup ds
  · obtain ⟨ds, rfl⟩ := hs
    simp [-gSeq]
    by_cases h5 : ds.length ≤ 512
    · refine .inl ⟨by omega, all_lc (isForbid rs) (fun d hd Q' R z => ?_) (by simp; omega) ?_⟩
      · simp
        have nd := n.tup d hd
        exact is_forbid_sp nd hrs (fun es e => by
          rw [e] at nd
          have := nd.wt
          simp only [wt] at this
          have := wts_len es
          omega) z
      · simpa [areForbids, h5] using q
    · exact .inr ⟨by omega, by simpa [areForbids, h5] using q⟩
  · have e : areForbids rs d = false := by
      cases d with
      | tup ds => exact absurd ⟨ds, rfl⟩ hs
      | _ => rfl
    rw [e] at q
    simp [-gSeq, ht, ty_tup ht hs, q]
theorem due_sp {D W : Nat} {d : Dv} {h : Mh} {Q : Kd} {top : Str} {rs : List Dv} (n : Nic D W d) (hrs : ∀ r ∈ rs, IsRow r) (hl : W ≤ 100000) (q : Q (.bl (areForbids rs d)) h) : sp_l_e_due [.tup [.str top, .tup rs], d] h Q := by
  refine ⟨rfl, ?_⟩
  obtain ⟨t, ht⟩ := n.ty h
  refine seq_step ?_
  by_cases hs : ∃ ds, d = .tup ds
  · obtain ⟨ds, rfl⟩ := hs
    simp [-gSeq]
    by_cases h5 : ds.length ≤ 512
    · refine .inl ⟨by omega, ?_⟩
      refine seq_step ?_
      simp [-gSeq]
      refine seq_step ?_
      simp [-gSeq, -wFor]
      refine wFor_all (isForbid rs) (fun ρ => ∃ v3, ρ = [some (.tup [.str top, .tup rs]), some (.tup ds), some (.tup rs), v3, none]) ds _ (fun d hd ρ N hI h1 h2 => ?_) ⟨_, rfl⟩ (fun ha => by simpa [areForbids, h5, ha] using q) (fun ha ρ' hI => by
        obtain ⟨v3, rfl⟩ := hI
        simpa [areForbids, h5, ha] using q)
      obtain ⟨v3, rfl⟩ := hI
      have nd := n.tup d hd
      have ok : ∀ {v}, N [some (.tup [.str top, .tup rs]), some (.tup ds), some (.tup rs), v, none] h ∨ True := .inr trivial
      by_cases hs : ∃ es, d = .tup es
      · obtain ⟨es, rfl⟩ := hs
        simp [-gSeq]
        refine seq_step ?_
        have lz : es.length ≤ 100000 := by
          have := nd.wt
          simp only [wt] at this
          have := wts_len es
          omega
        by_cases h3 : es.length = 3
        · obtain ⟨x, y, z, rfl⟩ := three h3
          have nx := nd.tup x (by simp)
          have ny := nd.tup y (by simp)
          have nz := nd.tup z (by simp)
          simp [-gSeq]
          refine e_whole_sp nx (e_whole_sp ny (e_whole_sp nz ?_))
          refine ⟨_, [isWhole x, isWhole y, isWhole z], rfl, rfl, ?_⟩
          have ea : ([isWhole x, isWhole y, isWhole z].all fun b => b) = (isWhole x && (isWhole y && isWhole z)) := by simp
          rw [ea]
          cases hw : (isWhole x && (isWhole y && isWhole z))
          · exact .inl ⟨rfl, h2 (isForbid_no hw)⟩
          · simp at hw
            obtain ⟨a, rfl⟩ := whole_int hw.1
            obtain ⟨b, rfl⟩ := whole_int hw.2.1
            obtain ⟨c, rfl⟩ := whole_int hw.2.2
            refine .inr ⟨rfl, ?_⟩
            have h1 : isF3 rs a b c = true → _ := h1
            have h2 : isF3 rs a b c = false → Q (.bl false) h := h2
            refine seq_step ?_
            simp [-gSeq]
            refine f3_walk hrs (F := Q (.bl false)) (R := fun x y h2 => (dat x = true ∧ dep x ≤ 60) ∧ (dat y = true ∧ dep y ≤ 60) ∧ (deq x y = true ∧ N [some (Dv.tup [Dv.str top, Dv.tup rs]), some (Dv.tup ds), some (Dv.tup rs), some (Dv.tup [Dv.int a, Dv.int b, Dv.int c]), none] h2 ∨ deq x y = false ∧ Q (.bl false) h2)) (fun w s2 e => ?_) h2
            refine ⟨⟨rfl, by simp⟩, ⟨rfl, by simp⟩, ?_⟩
            cases hq : (w == s2)
            · rw [hq] at e
              exact .inr ⟨hq, h2 e⟩
            · rw [hq] at e
              exact .inl ⟨hq, h1 e _ ⟨_, rfl⟩⟩
        · have h3' : ¬ (es.length : Int) = 3 := by omega
          simp [-gSeq, h3']
          exact h2 (isForbid_no3 h3)
      · obtain ⟨t, ht⟩ := nd.ty h
        have e : isForbid rs d = false := by
          cases d with
          | tup ds => exact absurd ⟨ds, rfl⟩ hs
          | _ => rfl
        simp [-gSeq]
        refine seq_step ?_
        simp [-gSeq, ht, ty_tup ht hs]
        exact h2 e
    · exact .inr ⟨by omega, by simpa [areForbids, h5] using q⟩
  · have e : areForbids rs d = false := by
      cases d with
      | tup ds => exact absurd ⟨ds, rfl⟩ hs
      | _ => rfl
    rw [e] at q
    simp [-gSeq, ht, ty_tup ht hs, q]
end L44

namespace L44
open PySem L2 G3
set_option exponentiation.threshold 4000

theorem str_small {v : Int} (h0 : 0 ≤ v) (h1 : v < 16) : Wd1 3 (Str.ofString (toString v)) := by
  have key : ∀ k : Fin 16, (Str.ofString (toString ((k.val : Nat) : Int))).length ≤ 3 ∧ ∀ c ∈ (Str.ofString (toString ((k.val : Nat) : Int))).cps.toList, c < 128 := by decide +kernel
  have := key ⟨v.toNat, by omega⟩
  have e : ((v.toNat : Nat) : Int) = v := by omega
  simp only [e] at this
  exact this
theorem bent_sp {n : Nat} {p : Addr} {h : Mh} {Q : Kd} {top : Str} {rs fs : List Dv} (f : Feed h p n) (hn : n < 2 ^ 29) (nrs : rs ≠ []) (lrs : rs.length ≤ 16) (hfs : ∀ d ∈ fs, IsF d) (nfs : fs ≠ []) (lfs : fs.length ≤ 9)
    (q : ∀ d h', Nic 3 30000 d → Feed h' p (n + 10) → Kp p h h' → Q d h') : sp_l_e_bent [.ref p, .tup [.str top, .tup rs], .tup fs] h Q := by
  refine ⟨rfl, ?_⟩
  have hlf := List.length_pos_iff.2 nfs
  have hlr := List.length_pos_iff.2 nrs
  refine seq_step ?_
  simp [-gSeq]
  refine take_sp f (by omega) (by omega) (by omega) fun at_ h1 a0 a1 f1 k1 => ?_
  refine seq_step ?_
  simp [-gSeq]
  refine pick_ix IsF a0 a1 hfs ?_
  rintro _ ⟨i, j, k, rfl, hi, hj, hk⟩
  refine seq_step ?_
  simp [-gSeq]
  refine take_sp f1 (by omega) (by decide) (by decide) fun spot h2 s0 s1 f2 k2 => ?_
  refine seq_step ?_
  simp [-gSeq]
  refine seq_step ?_
  simp [-gSeq]
  obtain ⟨_, hv, v, rfl, v0, v1⟩ := atI_pick (xs := [Dv.int (i : Int), .int (j : Int), .int (k : Int)]) (fun d => ∃ v : Int, d = .int v ∧ 0 ≤ v ∧ v < 16) s0 (by simpa using s1) (fun d hd => by
    simp at hd
    rcases hd with rfl | rfl | rfl <;> exact ⟨_, rfl, by omega, by omega⟩)
  have one : Nic 1 18 (.tup [.int (i : Int), .int (j : Int), .int (k : Int)]) := IsF.nic ⟨i, j, k, rfl, hi, hj, hk⟩
  simp [-gSeq, hv]
  have hlog : v.natAbs.log2 < 1920 := by
    by_cases z : v.natAbs = 0
    · rw [z]; simp
    · exact (Nat.log2_lt z).2 (by omega)
  refine ⟨hlog, ?_⟩
  refine seq_step ?_
  simp [-gSeq, hv]
  refine ⟨⟨by decide, by decide, by decide⟩, ?_⟩
  refine take_sp f2 (by omega) (by omega) (by omega) fun r3 h3 r30 r31 f3 k3 => ?_
  refine seq_step ?_
  simp [-gSeq]
  refine take_sp f3 (by omega) (by decide) (by decide) fun r4 h4 r40 r41 f4 k4 => ?_
  rw [rIx_lst]
  have nv : Nic 0 5 (.int v) := nic_intB (k := 4) (by omega) (by omega)
  have n1 : ∀ e ∈ [Dv.int v], Nic 0 5 e := fun e he => by
    simp at he
    rw [he]; exact nv
  refine pick_ix (Nic 1 200) r40 (by simpa using r41) (fun d hd => ?_) ?_
  · simp only [List.mem_cons, List.not_mem_nil, or_false, List.mem_append] at hd
    rcases hd with rfl | rfl | rfl | rfl | rfl | rfl | rfl | rfl | rfl | rfl | rfl | rfl | rfl | rfl | rfl
    · exact (nic_intB (k := 6) (by omega) (by omega)).mono (by omega) (by omega)
    · exact (nic_intB (k := 6) (by omega) (by omega)).mono (by omega) (by omega)
    · exact (nic_intB (k := 6) (by decide) (by omega)).mono (by omega) (by omega)
    · exact (nic_intB (k := 6) (by omega) (by omega)).mono (by omega) (by omega)
    · exact (nic_bl _).mono (by omega) (by omega)
    · exact (nic_bl _).mono (by omega) (by omega)
    · exact nic_non.mono (by omega) (by omega)
    · exact (nic_str (str_small v0 v1)).mono (by omega) (by omega)
    · exact (nic_tup n1).mono (by omega) (by simp)
    · exact (nic_lst n1).mono (by omega) (by simp)
    · exact (nic_int (by decide +kernel)).mono (by omega) (by omega)
    · exact (nic_intB (k := 6) (by omega) (by omega)).mono (by omega) (by omega)
    · exact (nic_bl _).mono (by omega) (by omega)
    · exact (nic_intB (k := 6) (by decide) (by omega)).mono (by omega) (by omega)
    · exact (nic_intB (k := 6) (by decide) (by omega)).mono (by omega) (by omega)
  intro w nw
  have c1 := cutD_len [Dv.int (i : Int), .int (j : Int), .int (k : Int)] none (some spot)
  have c2 := cutD_len [Dv.int (i : Int), .int (j : Int), .int (k : Int)] (some (spot + 1)) none
  simp only [List.length_cons, List.length_nil] at c1 c2
  refine ⟨by omega, by omega, ?_⟩
  have e3 : ∀ e ∈ [Dv.int (i : Int), .int (j : Int), .int (k : Int)], Nic 0 5 e := fun e he => by
    simp at he
    rcases he with rfl | rfl | rfl <;> exact nic_intB (k := 4) (by omega) (by omega)
  have bent : Nic 2 1500 (.tup (cutD [Dv.int (i : Int), .int (j : Int), .int (k : Int)] none (some spot) ++ w :: cutD [Dv.int (i : Int), .int (j : Int), .int (k : Int)] (some (spot + 1)) none)) := by
    refine (nic_tup' (D := 1) (W := 200) (m := 7) (fun e he => ?_) (by simp only [List.length_append, List.length_cons]; omega)).mono (by omega) (by omega)
    rcases List.mem_append.1 he with h | h
    · exact (e3 e (cutD_mem h)).mono (by omega) (by omega)
    · rcases List.mem_cons.1 h with h | h
      · rw [h]; exact nw
      · exact (e3 e (cutD_mem h)).mono (by omega) (by omega)
  generalize cutD [Dv.int (i : Int), .int (j : Int), .int (k : Int)] none (some spot) ++ w :: cutD [Dv.int (i : Int), .int (j : Int), .int (k : Int)] (some (spot + 1)) none = bt at bent ⊢
  refine seq_step ?_
  simp [-gSeq]
  refine take_sp f4 (by omega) (by decide) (by decide) fun r5 h5 r50 r51 f5 k5 => ?_
  rw [rIx_lst]
  have no1 : ∀ e ∈ [Dv.tup [.int (i : Int), .int (j : Int), .int (k : Int)]], Nic 1 18 e := fun e he => by
    simp at he
    rw [he]; exact one
  refine pick_ix (Nic 2 1500) r50 (by simpa using r51) (fun d hd => ?_) ?_
  · simp only [List.mem_cons, List.not_mem_nil, or_false] at hd
    rcases hd with rfl | rfl | rfl | rfl | rfl | rfl | rfl | rfl | rfl | rfl | rfl | rfl
    · exact bent
    · exact bent
    · exact bent
    · exact (nic_tup' (m := 3) (fun e he => e3 e (cutD_mem he)) (cutD_len _ _ _)).mono (by omega) (by omega)
    · refine (nic_tup' (D := 0) (W := 5) (m := 4) (fun e he => ?_) (by simp)).mono (by omega) (by omega)
      simp at he
      rcases he with rfl | rfl | rfl | rfl
      · exact e3 _ (by simp)
      · exact e3 _ (by simp)
      · exact e3 _ (by simp)
      · exact nic_intB (k := 4) (by decide) (by omega)
    · exact (nic_lst e3).mono (by omega) (by simp)
    · exact nic_non.mono (by omega) (by omega)
    · exact (nic_intB (k := 4) (by decide) (by omega)).mono (by omega) (by omega)
    · exact (nic_str (k := 0) ⟨by decide +kernel, by decide +kernel⟩).mono (by omega) (by omega)
    · exact (nic_tup (D := 0) (W := 0) (ds := []) (fun e he => by cases he)).mono (by omega) (by simp)
    · exact (nic_tup no1).mono (by omega) (by simp)
    · exact (nic_tup' (m := 3) (fun e he => e3 e (by simpa [or_comm, or_assoc, or_left_comm] using he)) (by simp)).mono (by omega) (by omega)
  intro u nu
  have d1 := cutD_len fs none (some at_)
  have d2 := cutD_len fs (some (at_ + 1)) none
  refine ⟨by omega, by omega, q _ _ ?_ (f5.mono (by omega)) ((((k1.trans k2).trans k3).trans k4).trans k5)⟩
  refine (nic_tup' (D := 2) (W := 1500) (m := 19) (fun e he => ?_) (by simp only [List.length_append, List.length_cons]; omega)).mono (by omega) (by omega)
  rcases List.mem_append.1 he with h | h
  · exact ((hfs e (cutD_mem h)).nic).mono (by omega) (by omega)
  · rcases List.mem_cons.1 h with h | h
    · rw [h]; exact nu
    · exact ((hfs e (cutD_mem h)).nic).mono (by omega) (by omega)

theorem pen_sp {cells : List Int} {h : Mh} {Q : Kd} (q : ∀ p h', h p = none → Feed h' p 0 → Q (.ref p) h') : sp_l_e_pen [.lst (cells.map Dv.int)] h Q := by
  refine ⟨rfl, ?_⟩
  simp [W_l_e_pen]
  rw [cutD_to (by decide)]
  intro p hp
  exact q p _ hp ⟨cells.take 60, 0, 0, by simp [List.map_take], by decide, by decide, by rw [List.length_take]; omega⟩
theorem law_end : ∀ ns : List Int, ns.length ≤ 63 → sp_law [.lst (ns.map Dv.int)] (fun _ => none) (fun v _ => v = .bl true) := by
  intro ns _
  refine ⟨rfl, ?_⟩
  refine seq_step ?_
  simp [-gSeq, -wFor]
  refine pen_sp fun p h0 _ f0 => ?_
  refine seq_step ?_
  simp [-gSeq, -wFor]
  refine wFor_inv _ (fun i ρ' h' => ∃ v2 v3 v4 v5 v6 v7, ρ' = [some (.lst (ns.map Dv.int)), some (.ref p), v2, v3, v4, v5, v6, v7, none] ∧ Feed h' p (1000 * i)) _ _ (fun i d ρ' h' N hI hd hN => ?_) ⟨_, _, _, _, _, _, rfl, f0⟩ (fun ρ' h' hI => ?_)
  · obtain ⟨v2, v3, v4, v5, v6, v7, rfl, f1⟩ := hI
    have hi := (rng_get hd).1
    simp [-gSeq, -wFor]
    refine seq_step ?_
    simp [-gSeq, -wFor]
    refine rules_sp f1 (by omega) fun top rs h2 wt hrs nrs lrs f2 k2 => ?_
    refine seq_step ?_
    simp [-gSeq, -wFor]
    refine forbids_sp f2 (by omega) hrs lrs fun fs h3 hfs lfs f3 k3 => ?_
    refine seq_step ?_
    simp [-gSeq, -wFor]
    have c0 := cutD_len fs none (some 1)
    refine ⟨by omega, ?_⟩
    refine seq_cut (fun ρ' h' => ∃ th, h' = h3 ∧ ρ' = [some (.lst (ns.map Dv.int)), some (.ref p), some d, some (Dv.tup [Dv.str top, Dv.tup rs]), some (.tup fs), some (.lst th), v6, v7, none] ∧ (∀ d ∈ th, Nic 4 90000 d) ∧ th.length ≤ 17) (fun N2 hN2 => ?_) ?_
    · simp [-gSeq]
      refine hN2 _ _ ⟨_, rfl, rfl, fun d hd => ?_, by simp⟩
      have nfs : ∀ e ∈ fs, Nic 1 18 e := fun e he => (hfs e he).nic
      have zz : Nic 0 5 (.int 0) := nic_intB (k := 4) (by decide) (by omega)
      have e0 : ∀ e ∈ ([] : List Dv), Nic 0 0 e := fun e he => by cases he
      have t0 : ∀ e ∈ [Dv.tup []], Nic 1 0 e := fun e he => by
        simp at he
        rw [he]; exact (nic_tup e0)
      have t1 : ∀ e ∈ [Dv.non], Nic 0 0 e := fun e he => by
        simp at he
        rw [he]; exact nic_non
      have z2 : ∀ e ∈ [Dv.int 0, .int 0], Nic 0 5 e := fun e he => by
        simp at he
        rw [he]; exact zz
      have t2 : ∀ e ∈ [Dv.tup [.int 0, .int 0]], Nic 1 12 e := fun e he => by
        simp at he
        rw [he]; exact (nic_tup z2)
      have z3 : ∀ e ∈ [Dv.int 0, .int 0, .int 0], Nic 0 5 e := fun e he => by
        simp at he
        rw [he]; exact zz
      have t3 : ∀ e ∈ [Dv.tup [.int 0, .int 0, .int 0]], Nic 1 18 e := fun e he => by
        simp at he
        rw [he]; exact (nic_tup z3)
      have z4 : ∀ e ∈ [Dv.int 0, .int 0, .int (rs.length : Int)], Nic 0 6 e := fun e he => by
        simp at he
        rcases he with rfl | rfl
        · exact zz.mono (by omega) (by omega)
        · exact nic_intB (k := 5) (by omega) (by omega)
      have t4 : ∀ e ∈ [Dv.tup [.int 0, .int 0, .int (rs.length : Int)]], Nic 1 21 e := fun e he => by
        simp at he
        rw [he]; exact (nic_tup z4)
      have z5 : ∀ e ∈ [Dv.bl true, .int 0, .int 0], Nic 0 5 e := fun e he => by
        simp at he
        rcases he with rfl | rfl
        · exact (nic_bl _).mono (by omega) (by omega)
        · exact zz
      have t5 : ∀ e ∈ [Dv.tup [.bl true, .int 0, .int 0]], Nic 1 18 e := fun e he => by
        simp at he
        rw [he]; exact (nic_tup z5)
      have t6 : ∀ e ∈ [Dv.tup rs], Nic 3 816 e := fun e he => by
        simp at he
        rw [he]; exact (nic_tup' (m := 16) (fun r hr => (hrs r hr).nic) lrs)
      simp only [List.mem_cons, List.not_mem_nil, or_false, List.mem_append] at hd
      rcases hd with rfl | rfl | rfl | rfl | rfl | rfl | rfl | rfl | rfl | rfl | rfl | rfl | rfl | rfl | rfl | rfl | rfl
      · exact (nic_tup' (m := 9) nfs lfs).mono (by omega) (by omega)
      · exact (nic_tup' (m := 9) (fun e he => nfs e (List.mem_reverse.1 he)) (by simpa using lfs)).mono (by omega) (by omega)
      · refine (nic_tup' (D := 1) (W := 18) (m := 18) (fun e he => ?_) (by simp only [List.length_append]; omega)).mono (by omega) (by omega)
        rcases List.mem_append.1 he with h | h
        · exact nfs e h
        · exact nfs e (cutD_mem h)
      · exact (nic_lst' (m := 9) nfs lfs).mono (by omega) (by omega)
      · exact nic_non.mono (by omega) (by omega)
      · exact zz.mono (by omega) (by omega)
      · exact (nic_str (k := 0) ⟨by decide +kernel, by decide +kernel⟩).mono (by omega) (by omega)
      · exact (nic_tup e0).mono (by omega) (by simp)
      · exact (nic_lst e0).mono (by omega) (by simp)
      · exact (nic_tup t0).mono (by omega) (by simp)
      · exact (nic_tup t1).mono (by omega) (by simp)
      · exact (nic_tup t2).mono (by omega) (by simp)
      · exact (nic_bl _).mono (by omega) (by omega)
      · exact (nic_tup t3).mono (by omega) (by simp)
      · exact (nic_tup t4).mono (by omega) (by simp)
      · exact (nic_tup t5).mono (by omega) (by simp)
      · exact (nic_tup t6).mono (by omega) (by simp)
    rintro _ _ ⟨th, rfl, rfl, hth, lth⟩
    refine seq_cut (fun ρ' h' => ∃ th, ρ' = [some (.lst (ns.map Dv.int)), some (.ref p), some d, some (Dv.tup [Dv.str top, Dv.tup rs]), some (.tup fs), some (.lst th), v6, v7, none] ∧ (∀ d ∈ th, Nic 4 90000 d) ∧ Feed h' p (1000 * (i + 1))) (fun N2 hN2 => ?_) ?_
    · cases fs with
      | nil =>
        simp [-gSeq]
        exact hN2 _ _ ⟨th, rfl, hth, f3.mono (by omega)⟩
      | cons f0 fr =>
        have dd : dats (f0 :: fr) = true ∧ deps (f0 :: fr) ≤ 1 := by
          have n := nic_tup (D := 1) (W := 18) (ds := f0 :: fr) fun e he => (hfs e he).nic
          have a1 := (smal_of _ n.sm).1
          have a2 := n.dp
          simp only [dat, dep] at a1 a2
          exact ⟨a1, by omega⟩
        have d1 := dd.1
        have d2 := dd.2
        simp only [dats, deps, Bool.and_eq_true] at d1 d2
        simp [-gSeq, d1]
        refine ⟨by omega, ?_⟩
        have e1 : cutD (f0 :: fr) none (some 1) = [f0] := by
          rw [cutD_to (by decide)]
          rfl
        have n0 := (hfs f0 List.mem_cons_self).nic
        have nrep : ∀ m : Nat, m ≤ 600 → Nic 4 90000 (.tup (List.replicate m f0)) := fun m hm => (nic_tup' (D := 1) (W := 18) (m := 600) (fun e he => by rw [(List.mem_replicate.1 he).2]; exact n0) (by simpa using hm)).mono (by omega) (by omega)
        refine seq_step ?_
        simp [-gSeq]
        refine wLc_inv (Nic 3 30000) _ _ (fun j h' => Feed h' p (1000 * i + 320 + 10 * j)) _ (fun j d h' Q' R f4 hd q' => ?_) (f3.mono (by omega)) (by simp [rng_len]) (fun ys h4 ly al f4 => ?_)
        · have hj := (rng_get hd).1
          simp
          exact bent_sp f4 (by omega) nrs lrs hfs (by simp) lfs fun d h5 nd f5 k5 => q' _ _ nd (f5.mono (by omega))
        · rw [rng_len] at ly f4
          simp [-gSeq, -List.reduceReplicate, e1, mul_tup]
          refine ⟨by omega, by omega, hN2 _ _ ⟨_, rfl, fun d hd => ?_, f4.mono (by omega)⟩⟩
          simp only [List.mem_append, List.mem_cons, List.not_mem_nil, or_false] at hd
          rcases hd with h | h | h | h
          · exact hth d h
          · exact (al d h).mono (by omega) (by omega)
          · rw [h]; exact nrep 512 (by omega)
          · rw [h]; exact nrep 513 (by omega)
    · rintro _ _ ⟨th, rfl, hth, f4⟩
      simp [-gSeq, -wFor]
      refine wFor_inv _ (fun j ρ' h' => ∃ v6 v7, ρ' = [some (.lst (ns.map Dv.int)), some (.ref p), some d, some (Dv.tup [Dv.str top, Dv.tup rs]), some (.tup fs), some (.lst th), v6, v7, none] ∧ Feed h' p (1000 * (i + 1))) _ _ (fun j e ρ' h' N2 hI hd hN2 => ?_) ⟨_, _, rfl, f4⟩ (fun ρ' h' hI => ?_)
      · obtain ⟨v6, v7, rfl, f5⟩ := hI
        have ne := hth e (List.mem_of_getElem? hd)
        have ok := ne.okR (by decide) (by decide)
        have okb : ∀ b : Bool, okR (.bl b) := fun b => (nic_bl b).okR (by decide) (by decide)
        simp [-gSeq]
        refine seq_step ?_
        simp [-gSeq, ok]
        refine are_forbids_sp ne hrs (by decide) ?_
        simp [okb]
        refine due_sp ne hrs (by decide) ?_
        simp [okb, ok]
        exact hN2 _ _ ⟨_, _, rfl, f5⟩
      · obtain ⟨v6, v7, rfl, f5⟩ := hI
        exact hN _ _ ⟨_, _, _, _, _, _, rfl, f5⟩
  · obtain ⟨v2, v3, v4, v5, v6, v7, rfl, f1⟩ := hI
    simp
end L44

namespace L44
open PySem PyProof.Rows L2 G3
def topS (i : Nat) : Stmt := PySem.Challenge.pw_allreads_k44_forbids_known.main.body.getD i (.Pass ⟨0, 0, 0, 0⟩)
abbrev s_is_whole : Stmt := topS 1
abbrev N_is_whole : List Str := ["thing"]
theorem sc_is_whole : FnScope N_is_whole ["thing"] (defScope s_is_whole) := ⟨rfl, rfl, rfl, by decide +kernel, rfl, by decide +kernel, by decide +kernel⟩
abbrev s_is_forbid : Stmt := topS 4
abbrev N_is_forbid : List Str := ["rules", "thing", "number", "part", "other", "rows", "one"]
theorem sc_is_forbid : FnScope N_is_forbid ["rules", "thing"] (defScope s_is_forbid) := ⟨rfl, rfl, rfl, by decide +kernel, rfl, by decide +kernel, by decide +kernel⟩
abbrev s_are_forbids : Stmt := topS 5
abbrev N_are_forbids : List Str := ["rules", "thing", "one"]
theorem sc_are_forbids : FnScope N_are_forbids ["rules", "thing"] (defScope s_are_forbids) := ⟨rfl, rfl, rfl, by decide +kernel, rfl, by decide +kernel, by decide +kernel⟩
abbrev s_l_e_pen : Stmt := topS 7
abbrev N_l_e_pen : List Str := ["_law_script"]
theorem sc_l_e_pen : FnScope N_l_e_pen ["_law_script"] (defScope s_l_e_pen) := ⟨rfl, rfl, rfl, by decide +kernel, rfl, by decide +kernel, by decide +kernel⟩
abbrev s_l_e_fresh : Stmt := topS 8
abbrev N_l_e_fresh : List Str := ["_law_pen", "_law_at", "_law_cell", "_law_one", "_law_two", "_law_mixed", "_law_other"]
theorem sc_l_e_fresh : FnScope N_l_e_fresh ["_law_pen"] (defScope s_l_e_fresh) := ⟨rfl, rfl, rfl, by decide +kernel, rfl, by decide +kernel, by decide +kernel⟩
abbrev s_l_e_take : Stmt := topS 9
abbrev N_l_e_take : List Str := ["_law_pen", "_law_many", "_law_found"]
theorem sc_l_e_take : FnScope N_l_e_take ["_law_pen", "_law_many"] (defScope s_l_e_take) := ⟨rfl, rfl, rfl, by decide +kernel, rfl, by decide +kernel, by decide +kernel⟩
abbrev s_l_e_mixed : Stmt := topS 10
abbrev N_l_e_mixed : List Str := ["_law_pen", "_law_some", "_law_left", "_law_k"]
theorem sc_l_e_mixed : FnScope N_l_e_mixed ["_law_pen", "_law_some"] (defScope s_l_e_mixed) := ⟨rfl, rfl, rfl, by decide +kernel, rfl, by decide +kernel, by decide +kernel⟩
abbrev s_l_e_rows : Stmt := topS 11
abbrev N_l_e_rows : List Str := ["_law_pen", "_law_names", "_law_signs", "_law_s", "_law_a", "_law_b", "_law_x", "_law_y", "_law_z", "_law_some", "_law_rows", "_law_k", "_law_head", "_law_body", "_law_j", "_law_name"]
theorem sc_l_e_rows : FnScope N_l_e_rows ["_law_pen", "_law_names", "_law_signs"] (defScope s_l_e_rows) := ⟨rfl, rfl, rfl, by decide +kernel, rfl, by decide +kernel, by decide +kernel⟩
abbrev s_l_e_rules : Stmt := topS 12
abbrev N_l_e_rules : List Str := ["_law_pen", "_law_names", "_law_signs", "_law_found", "_law_row"]
theorem sc_l_e_rules : FnScope N_l_e_rules ["_law_pen"] (defScope s_l_e_rules) := ⟨rfl, rfl, rfl, by decide +kernel, rfl, by decide +kernel, by decide +kernel⟩
abbrev s_l_e_forbids : Stmt := topS 13
abbrev N_l_e_forbids : List Str := ["_law_pen", "_law_rules", "_law_every", "_law_number", "_law_row", "_law_part", "_law_word", "_law_found", "_law_turn", "_law_other", "_law_one"]
theorem sc_l_e_forbids : FnScope N_l_e_forbids ["_law_pen", "_law_rules"] (defScope s_l_e_forbids) := ⟨rfl, rfl, rfl, by decide +kernel, rfl, by decide +kernel, by decide +kernel⟩
abbrev s_l_e_whole : Stmt := topS 14
abbrev N_l_e_whole : List Str := ["_law_thing"]
theorem sc_l_e_whole : FnScope N_l_e_whole ["_law_thing"] (defScope s_l_e_whole) := ⟨rfl, rfl, rfl, by decide +kernel, rfl, by decide +kernel, by decide +kernel⟩
abbrev s_l_e_due : Stmt := topS 15
abbrev N_l_e_due : List Str := ["_law_rules", "_law_thing", "_law_rows", "_law_one", "_law_number"]
theorem sc_l_e_due : FnScope N_l_e_due ["_law_rules", "_law_thing"] (defScope s_l_e_due) := ⟨rfl, rfl, rfl, by decide +kernel, rfl, by decide +kernel, by decide +kernel⟩
abbrev s_l_e_bent : Stmt := topS 16
abbrev N_l_e_bent : List Str := ["_law_pen", "_law_rules", "_law_bars", "_law_at", "_law_one", "_law_spot", "_law_many", "_law_odd", "_law_bent", "_law_some"]
theorem sc_l_e_bent : FnScope N_l_e_bent ["_law_pen", "_law_rules", "_law_bars"] (defScope s_l_e_bent) := ⟨rfl, rfl, rfl, by decide +kernel, rfl, by decide +kernel, by decide +kernel⟩
abbrev s_law : Stmt := topS 17
abbrev N_law : List Str := ["_law_script", "_law_pen", "_law_turn", "_law_rules", "_law_bars", "_law_things", "_law_thing", "_law_seen", "_law_k"]
theorem sc_law : FnScope N_law ["_law_script"] (defScope s_law) := ⟨rfl, rfl, rfl, by decide +kernel, rfl, by decide +kernel, by decide +kernel⟩
structure Txt (K : PySem.W.Frag) (mg : Str → Option Value) where
  f_is_whole : Addr
  d_is_whole : FuncData
  F_is_whole : Fun K "is_whole" "is_whole" s_is_whole f_is_whole d_is_whole
  g_is_whole : mg "is_whole" = some (.ref f_is_whole)
  b_is_whole : Binds K d_is_whole ["thing"] []
  f_is_forbid : Addr
  d_is_forbid : FuncData
  F_is_forbid : Fun K "is_forbid" "is_forbid" s_is_forbid f_is_forbid d_is_forbid
  g_is_forbid : mg "is_forbid" = some (.ref f_is_forbid)
  b_is_forbid : Binds K d_is_forbid ["rules", "thing"] []
  f_are_forbids : Addr
  d_are_forbids : FuncData
  F_are_forbids : Fun K "are_forbids" "are_forbids" s_are_forbids f_are_forbids d_are_forbids
  g_are_forbids : mg "are_forbids" = some (.ref f_are_forbids)
  b_are_forbids : Binds K d_are_forbids ["rules", "thing"] []
  f_l_e_pen : Addr
  d_l_e_pen : FuncData
  F_l_e_pen : Fun K "_law_e_pen" "_law_e_pen" s_l_e_pen f_l_e_pen d_l_e_pen
  g_l_e_pen : mg "_law_e_pen" = some (.ref f_l_e_pen)
  b_l_e_pen : Binds K d_l_e_pen ["_law_script"] []
  f_l_e_fresh : Addr
  d_l_e_fresh : FuncData
  F_l_e_fresh : Fun K "_law_e_fresh" "_law_e_fresh" s_l_e_fresh f_l_e_fresh d_l_e_fresh
  g_l_e_fresh : mg "_law_e_fresh" = some (.ref f_l_e_fresh)
  b_l_e_fresh : Binds K d_l_e_fresh ["_law_pen"] []
  f_l_e_take : Addr
  d_l_e_take : FuncData
  F_l_e_take : Fun K "_law_e_take" "_law_e_take" s_l_e_take f_l_e_take d_l_e_take
  g_l_e_take : mg "_law_e_take" = some (.ref f_l_e_take)
  b_l_e_take : Binds K d_l_e_take ["_law_pen", "_law_many"] []
  f_l_e_mixed : Addr
  d_l_e_mixed : FuncData
  F_l_e_mixed : Fun K "_law_e_mixed" "_law_e_mixed" s_l_e_mixed f_l_e_mixed d_l_e_mixed
  g_l_e_mixed : mg "_law_e_mixed" = some (.ref f_l_e_mixed)
  b_l_e_mixed : Binds K d_l_e_mixed ["_law_pen", "_law_some"] []
  f_l_e_rows : Addr
  d_l_e_rows : FuncData
  F_l_e_rows : Fun K "_law_e_rows" "_law_e_rows" s_l_e_rows f_l_e_rows d_l_e_rows
  g_l_e_rows : mg "_law_e_rows" = some (.ref f_l_e_rows)
  b_l_e_rows : Binds K d_l_e_rows ["_law_pen", "_law_names", "_law_signs"] []
  f_l_e_rules : Addr
  d_l_e_rules : FuncData
  F_l_e_rules : Fun K "_law_e_rules" "_law_e_rules" s_l_e_rules f_l_e_rules d_l_e_rules
  g_l_e_rules : mg "_law_e_rules" = some (.ref f_l_e_rules)
  b_l_e_rules : Binds K d_l_e_rules ["_law_pen"] []
  f_l_e_forbids : Addr
  d_l_e_forbids : FuncData
  F_l_e_forbids : Fun K "_law_e_forbids" "_law_e_forbids" s_l_e_forbids f_l_e_forbids d_l_e_forbids
  g_l_e_forbids : mg "_law_e_forbids" = some (.ref f_l_e_forbids)
  b_l_e_forbids : Binds K d_l_e_forbids ["_law_pen", "_law_rules"] []
  f_l_e_whole : Addr
  d_l_e_whole : FuncData
  F_l_e_whole : Fun K "_law_e_whole" "_law_e_whole" s_l_e_whole f_l_e_whole d_l_e_whole
  g_l_e_whole : mg "_law_e_whole" = some (.ref f_l_e_whole)
  b_l_e_whole : Binds K d_l_e_whole ["_law_thing"] []
  f_l_e_due : Addr
  d_l_e_due : FuncData
  F_l_e_due : Fun K "_law_e_due" "_law_e_due" s_l_e_due f_l_e_due d_l_e_due
  g_l_e_due : mg "_law_e_due" = some (.ref f_l_e_due)
  b_l_e_due : Binds K d_l_e_due ["_law_rules", "_law_thing"] []
  f_l_e_bent : Addr
  d_l_e_bent : FuncData
  F_l_e_bent : Fun K "_law_e_bent" "_law_e_bent" s_l_e_bent f_l_e_bent d_l_e_bent
  g_l_e_bent : mg "_law_e_bent" = some (.ref f_l_e_bent)
  b_l_e_bent : Binds K d_l_e_bent ["_law_pen", "_law_rules", "_law_bars"] []
  f_law : Addr
  d_law : FuncData
  F_law : Fun K "law" "law" s_law f_law d_law
  g_law : mg "law" = some (.ref f_law)
  b_law : Binds K d_law ["_law_script"] []
  t_MOST_FORBIDS : Tok
  c_MOST_FORBIDS : mg "MOST_FORBIDS" = some (.int 512 t_MOST_FORBIDS)
  n_all : mg "all" = none
  n_bool : mg "bool" = none
  n_enumerate : mg "enumerate" = none
  n_int : mg "int" = none
  n_isinstance : mg "isinstance" = none
  n_len : mg "len" = none
  n_list : mg "list" = none
  n_min : mg "min" = none
  n_range : mg "range" = none
  n_repr : mg "repr" = none
  n_str : mg "str" = none
  n_tuple : mg "tuple" = none
section
variable {P : Program} {w : World} {K : PySem.W.Frag} {mg : Str → Option Value} {base : Heap} (T : Txt K mg)
include T
theorem ok_is_whole : FnG P w K mg base 1 T.f_is_whole T.d_is_whole ["thing"] sp_is_whole := by
  refine fn_g T.F_is_whole sc_is_whole len_is_whole (g := W_is_whole) (fun cdv A outer s H hr hgd => ?_) w_is_whole
  have hu := hr.units
  exact (b_one (s_ret (e_and (e_callB c_isi (by rfl) T.n_isinstance (by decide +kernel) (a_cons (e_var 0) (a_cons (e_gTy (by rfl) T.n_int (by decide +kernel)) a_nil))) (e_one (e_not (e_callB c_isi (by rfl) T.n_isinstance (by decide +kernel) (a_cons (e_var 0) (a_cons (e_gTy (by rfl) T.n_bool (by decide +kernel)) a_nil))))))))
theorem ok_is_forbid : FnG P w K mg base 2 T.f_is_forbid T.d_is_forbid ["rules", "thing"] sp_is_forbid := by
  have G_is_whole := ok_is_whole (P := P) (w := w) (base := base) T
  refine fn_g T.F_is_forbid sc_is_forbid len_is_forbid (g := W_is_forbid) (fun cdv A outer s H hr hgd => ?_) w_is_forbid
  have hu := hr.units
  exact (b_cons (s_if (t_w (t_or (t_not (t_val (e_callB c_isi (by rfl) T.n_isinstance (by decide +kernel) (a_cons (e_var 1) (a_cons (e_gTy (by rfl) T.n_tuple (by decide +kernel)) a_nil))))) (t_or (t_cmp (o_ne hu) (e_callB c_len (by rfl) T.n_len (by decide +kernel) (a_cons (e_var 1) a_nil)) e_int (nomark _)) (t_or1 (t_not (t_val (e_callB (c_all rfl) (by rfl) T.n_all (by decide +kernel) (a_cons (e_lc [("one", 6)] rfl sc_is_forbid.nd (i_seq (e_var 1)) (blkOk_by (own := [("one", 6)]) (N := N_is_forbid) (sc := defScope s_is_forbid) (by decide +kernel)) (fun _ _ _ _ _ => (g_name [6] 6 sc_is_forbid.nd)) (fun _ _ _ _ _ => ts_nil) (fun _ _ _ _ _ => (e_call (G_is_whole) (hr.mono (by decide)) hgd (by rfl) T.g_is_whole T.F_is_whole.kp T.b_is_whole (a_cons (e_var 6) a_nil)))) a_nil)))))))) (b_one (s_ret e_bl)) b_nil)
  (b_cons (s_asg (e_var 1) (g_tup rfl (gs_cons (g_name [2, 3, 4] 2 sc_is_forbid.nd) (gs_cons (g_name [2, 3, 4] 3 sc_is_forbid.nd) (gs_cons (g_name [2, 3, 4] 4 sc_is_forbid.nd) (gs_nil [2, 3, 4]))))))
  (b_cons (s_set 5 (e_ix (e_var 0) e_int) sc_is_forbid.nd)
  (b_cons (s_if (t_w (t_or (t_not (t_chain o_le o_lt e_int (e_var 2) (e_callB c_len (by rfl) T.n_len (by decide +kernel) (a_cons (e_var 5) a_nil)))) (t_or (t_not (t_chain o_le o_lt e_int (e_var 4) (e_callB c_len (by rfl) T.n_len (by decide +kernel) (a_cons (e_var 5) a_nil)))) (t_or1 (t_not (t_chain o_le o_lt e_int (e_var 3) (e_callB c_len (by rfl) T.n_len (by decide +kernel) (a_cons (e_ix (e_ix (e_var 5) (e_var 2)) e_int) a_nil)))))))) (b_one (s_ret e_bl)) b_nil)
  (b_one (s_ret (e_cmp (o_eq hu) (e_ix (e_ix (e_ix (e_var 5) (e_var 2)) e_int) (e_var 3)) (e_ix (e_ix (e_var 5) (e_var 4)) e_int) (nomark _))))))))
theorem ok_are_forbids : FnG P w K mg base 3 T.f_are_forbids T.d_are_forbids ["rules", "thing"] sp_are_forbids := by
  have G_is_forbid := ok_is_forbid (P := P) (w := w) (base := base) T
  refine fn_g T.F_are_forbids sc_are_forbids len_are_forbids (g := W_are_forbids) (fun cdv A outer s H hr hgd => ?_) w_are_forbids
  have hu := hr.units
  exact (b_cons (s_if (t_w (t_or (t_not (t_val (e_callB c_isi (by rfl) T.n_isinstance (by decide +kernel) (a_cons (e_var 1) (a_cons (e_gTy (by rfl) T.n_tuple (by decide +kernel)) a_nil))))) (t_or1 (t_cmp o_gt (e_callB c_len (by rfl) T.n_len (by decide +kernel) (a_cons (e_var 1) a_nil)) (e_gInt (by rfl) T.c_MOST_FORBIDS) (nomark _))))) (b_one (s_ret e_bl)) b_nil)
  (b_one (s_ret (e_callB (c_all rfl) (by rfl) T.n_all (by decide +kernel) (a_cons (e_lc [("one", 2)] rfl sc_are_forbids.nd (i_seq (e_var 1)) (blkOk_by (own := [("one", 2)]) (N := N_are_forbids) (sc := defScope s_are_forbids) (by decide +kernel)) (fun _ _ _ _ _ => (g_name [2] 2 sc_are_forbids.nd)) (fun _ _ _ _ _ => ts_nil) (fun _ _ _ _ _ => (e_call (G_is_forbid) (hr.mono (by decide)) hgd (by rfl) T.g_is_forbid T.F_is_forbid.kp T.b_is_forbid (a_cons (e_var 0) (a_cons (e_var 2) a_nil))))) a_nil)))))
theorem ok_l_e_pen : FnG P w K mg base 1 T.f_l_e_pen T.d_l_e_pen ["_law_script"] sp_l_e_pen := by
  refine fn_g T.F_l_e_pen sc_l_e_pen len_l_e_pen (g := W_l_e_pen) (fun cdv A outer s H hr hgd => ?_) w_l_e_pen
  have hu := hr.units
  exact (b_one (s_ret (e_mlst (a_cons (e_callTy c_list (by rfl) T.n_list (by decide +kernel) (a_cons (e_sl (e_var 0) p_none (p_some e_int)) a_nil)) (a_cons e_int (a_cons e_int a_nil))))))
theorem ok_l_e_fresh : FnG P w K mg base 1 T.f_l_e_fresh T.d_l_e_fresh ["_law_pen"] sp_l_e_fresh := by
  refine fn_g T.F_l_e_fresh sc_l_e_fresh len_l_e_fresh (g := W_l_e_fresh) (fun cdv A outer s H hr hgd => ?_) w_l_e_fresh
  have hu := hr.units
  exact (b_cons (s_set 1 (e_ix (e_var 0) e_int) sc_l_e_fresh.nd)
  (b_cons (s_asg (e_op o_add (e_var 1) e_int) (g_sub [] (e_var 0) e_int))
  (b_cons (s_set 2 e_int sc_l_e_fresh.nd)
  (b_cons (s_if (t_cmp (o_ne hu) (e_ix (e_var 0) e_int) (e_lst a_nil) (nomark _)) (b_one (s_set 2 (e_op o_fdiv (e_ix (e_ix (e_var 0) e_int) (e_op o_mod (e_op o_mul (e_var 1) e_int) (e_callB c_len (by rfl) T.n_len (by decide +kernel) (a_cons (e_ix (e_var 0) e_int) a_nil)))) (e_op o_add e_int (e_op o_fdiv (e_var 1) (e_callB c_len (by rfl) T.n_len (by decide +kernel) (a_cons (e_ix (e_var 0) e_int) a_nil))))) sc_l_e_fresh.nd)) b_nil)
  (b_cons (s_if (t_cmp o_lt (e_var 1) (e_callB c_len (by rfl) T.n_len (by decide +kernel) (a_cons (e_ix (e_var 0) e_int) a_nil)) (nomark _)) (b_one (s_set 2 (e_ix (e_ix (e_var 0) e_int) (e_var 1)) sc_l_e_fresh.nd)) b_nil)
  (b_cons (s_if (t_cmp o_ge (e_var 2) (e_op o_pow e_int e_int) (nomark _)) (b_one (s_ret (e_var 2))) b_nil)
  (b_cons (s_set 3 (e_ix (e_lst (a_cons e_int (a_cons e_int (a_cons e_int (a_cons e_int (a_cons e_int (a_cons e_int (a_cons e_int a_nil)))))))) (e_op o_mod (e_var 1) e_int)) sc_l_e_fresh.nd)
  (b_cons (s_set 4 (e_ix (e_lst (a_cons e_int (a_cons e_int (a_cons e_int (a_cons e_int (a_cons e_int a_nil)))))) (e_op o_mod (e_var 1) e_int)) sc_l_e_fresh.nd)
  (b_cons (s_set 5 (e_op o_mod (e_op o_pow (e_op o_add (e_op o_add (e_op o_mod (e_var 2) (e_var 3)) (e_op o_mul e_int (e_var 1))) e_int) e_int) (e_var 3)) sc_l_e_fresh.nd)
  (b_cons (s_set 6 (e_op o_mod (e_op o_pow (e_op o_add (e_op o_add (e_var 5) (e_op o_mod (e_var 2) (e_var 4))) (e_op o_mul (e_var 1) (e_var 1))) e_int) (e_var 4)) sc_l_e_fresh.nd)
  (b_one (s_ret (e_op o_add (e_op o_mul (e_op o_add (e_var 5) e_int) (e_var 4)) (e_var 6))))))))))))))
theorem ok_l_e_take : FnG P w K mg base 2 T.f_l_e_take T.d_l_e_take ["_law_pen", "_law_many"] sp_l_e_take := by
  have G_l_e_fresh := ok_l_e_fresh (P := P) (w := w) (base := base) T
  refine fn_g T.F_l_e_take sc_l_e_take len_l_e_take (g := W_l_e_take) (fun cdv A outer s H hr hgd => ?_) w_l_e_take
  have hu := hr.units
  exact (b_cons (s_if (t_cmp o_lt (e_ix (e_var 0) e_int) (e_var 1) (nomark _)) (b_one (s_asg (e_call (G_l_e_fresh) (hr.mono (by decide)) hgd (by rfl) T.g_l_e_fresh T.F_l_e_fresh.kp T.b_l_e_fresh (a_cons (e_var 0) a_nil)) (g_sub [] (e_var 0) e_int))) b_nil)
  (b_cons (s_set 2 (e_op o_mod (e_ix (e_var 0) e_int) (e_var 1)) sc_l_e_take.nd)
  (b_cons (s_asg (e_op o_fdiv (e_ix (e_var 0) e_int) (e_var 1)) (g_sub [] (e_var 0) e_int))
  (b_one (s_ret (e_var 2))))))
theorem ok_l_e_mixed : FnG P w K mg base 3 T.f_l_e_mixed T.d_l_e_mixed ["_law_pen", "_law_some"] sp_l_e_mixed := by
  have G_l_e_take := ok_l_e_take (P := P) (w := w) (base := base) T
  refine fn_g T.F_l_e_mixed sc_l_e_mixed len_l_e_mixed (g := W_l_e_mixed) (fun cdv A outer s H hr hgd => ?_) w_l_e_mixed
  have hu := hr.units
  exact (b_cons (s_set 2 (e_callTy c_mlist (by rfl) T.n_list (by decide +kernel) (a_cons (e_var 1) a_nil)) sc_l_e_mixed.nd)
  (b_one (s_ret (e_lc [("_law_k", 3)] rfl sc_l_e_mixed.nd (i_rng1 (by rfl) T.n_range (a_cons (e_callB c_len (by rfl) T.n_len (by decide +kernel) (a_cons (e_var 1) a_nil)) a_nil)) (blkOk_by (own := [("_law_k", 3)]) (N := N_l_e_mixed) (sc := defScope s_l_e_mixed) (by decide +kernel)) (fun _ _ _ _ _ => (g_name [3] 3 sc_l_e_mixed.nd)) (fun _ _ _ _ _ => ts_nil) (fun _ _ _ _ _ => (e_bm PySem.F.plainAttrs_list PySem.F.slot_list_pop PySem.F.type_list_pop m_popAt (e_var 2) (a_cons (e_call (G_l_e_take) (hr.mono (by decide)) hgd (by rfl) T.g_l_e_take T.F_l_e_take.kp T.b_l_e_take (a_cons (e_var 0) (a_cons (e_callB c_len (by rfl) T.n_len (by decide +kernel) (a_cons (e_var 2) a_nil)) a_nil))) a_nil)))))))
theorem ok_l_e_rows : FnG P w K mg base 3 T.f_l_e_rows T.d_l_e_rows ["_law_pen", "_law_names", "_law_signs"] sp_l_e_rows := by
  have G_l_e_take := ok_l_e_take (P := P) (w := w) (base := base) T
  refine fn_g T.F_l_e_rows sc_l_e_rows len_l_e_rows (g := W_l_e_rows) (fun cdv A outer s H hr hgd => ?_) w_l_e_rows
  have hu := hr.units
  exact (b_cons (s_asg (e_var 1) (g_tup rfl (gs_cons (g_name [3, 4, 5] 3 sc_l_e_rows.nd) (gs_cons (g_name [3, 4, 5] 4 sc_l_e_rows.nd) (gs_cons (g_name [3, 4, 5] 5 sc_l_e_rows.nd) (gs_nil [3, 4, 5]))))))
  (b_cons (s_asg (e_var 2) (g_tup rfl (gs_cons (g_name [6, 7, 8] 6 sc_l_e_rows.nd) (gs_cons (g_name [6, 7, 8] 7 sc_l_e_rows.nd) (gs_cons (g_name [6, 7, 8] 8 sc_l_e_rows.nd) (gs_nil [6, 7, 8]))))))
  (b_cons (s_set 9 (e_mlst (a_cons (e_lst (a_cons (e_tup (a_cons (e_var 3) (a_cons (e_tup (a_cons (e_var 3) (a_cons (e_var 3) a_nil))) a_nil))) (a_cons (e_tup (a_cons (e_var 3) (a_cons (e_tup (a_cons (e_var 6) a_nil)) a_nil))) (a_cons (e_tup (a_cons (e_var 3) (a_cons (e_tup a_nil) a_nil))) (a_cons (e_tup (a_cons (e_var 3) (a_cons (e_tup (a_cons (e_var 3) (a_cons (e_var 3) (a_cons (e_var 3) a_nil)))) a_nil))) (a_cons (e_tup (a_cons (e_var 3) (a_cons (e_tup (a_cons (e_var 7) a_nil)) a_nil))) (a_cons (e_tup (a_cons (e_var 4) (a_cons (e_tup (a_cons (e_var 6) a_nil)) a_nil))) a_nil))))))) a_nil)) sc_l_e_rows.nd)
  (b_cons (s_expr (e_bm PySem.F.plainAttrs_list PySem.F.slot_list_append PySem.F.type_list_append m_append (e_var 9) (a_cons (e_lst (a_cons (e_tup (a_cons (e_var 3) (a_cons (e_tup (a_cons (e_var 3) (a_cons (e_var 6) (a_cons (e_var 3) a_nil)))) a_nil))) (a_cons (e_tup (a_cons (e_var 3) (a_cons (e_tup (a_cons (e_var 3) (a_cons (e_var 7) (a_cons (e_var 3) a_nil)))) a_nil))) (a_cons (e_tup (a_cons (e_var 3) (a_cons (e_tup (a_cons (e_var 8) a_nil)) a_nil))) (a_cons (e_tup (a_cons (e_var 3) (a_cons (e_tup (a_cons (e_var 6) (a_cons (e_var 3) a_nil))) a_nil))) (a_cons (e_tup (a_cons (e_var 3) (a_cons (e_tup (a_cons (e_var 3) (a_cons (e_var 7) a_nil))) a_nil))) (a_cons (e_tup (a_cons (e_var 4) (a_cons (e_tup (a_cons (e_var 3) a_nil)) a_nil))) (a_cons (e_tup (a_cons (e_var 3) (a_cons (e_tup (a_cons (e_var 4) (a_cons (e_var 6) (a_cons (e_var 3) a_nil)))) a_nil))) a_nil)))))))) a_nil)))
  (b_cons (s_expr (e_bm PySem.F.plainAttrs_list PySem.F.slot_list_append PySem.F.type_list_append m_append (e_var 9) (a_cons (e_lst (a_cons (e_tup (a_cons (e_var 3) (a_cons (e_tup (a_cons (e_var 4) a_nil)) a_nil))) (a_cons (e_tup (a_cons (e_var 4) (a_cons (e_tup (a_cons (e_var 5) a_nil)) a_nil))) (a_cons (e_tup (a_cons (e_var 5) (a_cons (e_tup (a_cons (e_var 3) a_nil)) a_nil))) (a_cons (e_tup (a_cons (e_var 5) (a_cons (e_tup (a_cons (e_var 6) a_nil)) a_nil))) (a_cons (e_tup (a_cons (e_var 3) (a_cons (e_tup (a_cons (e_var 3) (a_cons (e_var 5) a_nil))) a_nil))) (a_cons (e_tup (a_cons (e_var 4) (a_cons (e_tup (a_cons (e_var 7) (a_cons (e_var 4) a_nil))) a_nil))) a_nil))))))) a_nil)))
  (b_cons (s_expr (e_bm PySem.F.plainAttrs_list PySem.F.slot_list_append PySem.F.type_list_append m_append (e_var 9) (a_cons (e_lst (a_cons (e_tup (a_cons (e_var 3) (a_cons (e_tup (a_cons (e_var 4) (a_cons (e_var 3) (a_cons (e_var 6) a_nil)))) a_nil))) (a_cons (e_tup (a_cons (e_var 3) (a_cons (e_tup (a_cons (e_var 7) a_nil)) a_nil))) (a_cons (e_tup (a_cons (e_var 4) (a_cons (e_tup a_nil) a_nil))) (a_cons (e_tup (a_cons (e_var 4) (a_cons (e_tup (a_cons (e_var 6) a_nil)) a_nil))) (a_cons (e_tup (a_cons (e_var 3) (a_cons (e_tup (a_cons (e_var 3) (a_cons (e_var 4) a_nil))) a_nil))) (a_cons (e_tup (a_cons (e_var 4) (a_cons (e_tup (a_cons (e_var 4) (a_cons (e_var 4) a_nil))) a_nil))) a_nil))))))) a_nil)))
  (b_cons (s_expr (e_bm PySem.F.plainAttrs_list PySem.F.slot_list_append PySem.F.type_list_append m_append (e_var 9) (a_cons (e_lst (a_cons (e_tup (a_cons (e_var 3) (a_cons (e_tup (a_cons (e_var 4) (a_cons (e_var 5) a_nil))) a_nil))) (a_cons (e_tup (a_cons (e_var 4) (a_cons (e_tup (a_cons (e_var 6) (a_cons (e_var 4) a_nil))) a_nil))) (a_cons (e_tup (a_cons (e_var 4) (a_cons (e_tup a_nil) a_nil))) (a_cons (e_tup (a_cons (e_var 5) (a_cons (e_tup (a_cons (e_var 5) (a_cons (e_var 6) a_nil))) a_nil))) (a_cons (e_tup (a_cons (e_var 5) (a_cons (e_tup (a_cons (e_var 6) a_nil)) a_nil))) (a_cons (e_tup (a_cons (e_var 3) (a_cons (e_tup (a_cons (e_var 5) (a_cons (e_var 4) a_nil))) a_nil))) (a_cons (e_tup (a_cons (e_var 3) (a_cons (e_tup (a_cons (e_var 3) a_nil)) a_nil))) a_nil)))))))) a_nil)))
  (b_cons (s_set 10 (e_ix (e_var 9) (e_call (G_l_e_take) (hr.mono (by decide)) hgd (by rfl) T.g_l_e_take T.F_l_e_take.kp T.b_l_e_take (a_cons (e_var 0) (a_cons e_int a_nil)))) sc_l_e_rows.nd)
  (b_cons (s_if (t_cmp (o_eq hu) (e_call (G_l_e_take) (hr.mono (by decide)) hgd (by rfl) T.g_l_e_take T.F_l_e_take.kp T.b_l_e_take (a_cons (e_var 0) (a_cons e_int a_nil))) e_int (nomark _)) (b_one (s_ret (e_sl (e_var 10) p_none (p_some (e_op o_add e_int (e_call (G_l_e_take) (hr.mono (by decide)) hgd (by rfl) T.g_l_e_take T.F_l_e_take.kp T.b_l_e_take (a_cons (e_var 0) (a_cons (e_op o_sub (e_callB c_len (by rfl) T.n_len (by decide +kernel) (a_cons (e_var 10) a_nil)) e_int) a_nil)))))))) b_nil)
  (b_cons (s_setMLc 10 [("_law_name", 15)] rfl sc_l_e_rows.nd rfl rfl (sw_true rfl rfl rfl (by decide +kernel)) (i_seq (e_sl (e_var 1) p_none (p_some (e_call (G_l_e_take) (hr.mono (by decide)) hgd (by rfl) T.g_l_e_take T.F_l_e_take.kp T.b_l_e_take (a_cons (e_var 0) (a_cons e_int a_nil)))))) (blkOk_by (own := [("_law_name", 15)]) (N := N_l_e_rows) (sc := defScope s_l_e_rows) (by decide +kernel)) (fun _ _ _ _ _ => (g_name [15] 15 sc_l_e_rows.nd)) (fun _ _ _ _ _ => ts_nil) (fun _ _ _ _ _ => (e_tup (a_cons (e_var 15) (a_cons (e_tup (a_cons (e_ix (e_var 2) (e_call (G_l_e_take) (hr.mono (by decide)) hgd (by rfl) T.g_l_e_take T.F_l_e_take.kp T.b_l_e_take (a_cons (e_var 0) (a_cons e_int a_nil)))) a_nil)) a_nil)))))
  (b_cons (s_for PassesOwn.never rfl (i_rng1 (by rfl) T.n_range (a_cons (e_op o_add e_int (e_call (G_l_e_take) (hr.mono (by decide)) hgd (by rfl) T.g_l_e_take T.F_l_e_take.kp T.b_l_e_take (a_cons (e_var 0) (a_cons (e_ix (e_lst (a_cons e_int (a_cons e_int a_nil))) (e_call (G_l_e_take) (hr.mono (by decide)) hgd (by rfl) T.g_l_e_take T.F_l_e_take.kp T.b_l_e_take (a_cons (e_var 0) (a_cons e_int a_nil)))) a_nil)))) a_nil)) (g_name [11] 11 sc_l_e_rows.nd)
  (b_cons (s_set 12 (e_ix (e_var 1) (e_op o_mul (e_callB (c_min rfl) (by rfl) T.n_min (by decide +kernel) (a_cons (e_var 11) (a_cons e_int a_nil))) (e_call (G_l_e_take) (hr.mono (by decide)) hgd (by rfl) T.g_l_e_take T.F_l_e_take.kp T.b_l_e_take (a_cons (e_var 0) (a_cons e_int a_nil))))) sc_l_e_rows.nd)
  (b_cons (s_set 13 (e_tup a_nil) sc_l_e_rows.nd)
  (b_cons (s_for PassesOwn.never rfl (i_rng1 (by rfl) T.n_range (a_cons (e_ix (e_lst (a_cons e_int (a_cons e_int (a_cons e_int (a_cons e_int (a_cons e_int (a_cons e_int (a_cons e_int a_nil)))))))) (e_call (G_l_e_take) (hr.mono (by decide)) hgd (by rfl) T.g_l_e_take T.F_l_e_take.kp T.b_l_e_take (a_cons (e_var 0) (a_cons e_int a_nil)))) a_nil)) (g_name [14] 14 sc_l_e_rows.nd)
  (b_one (s_set 13 (e_op o_add (e_var 13) (e_tup (a_cons (e_ix (e_ix (e_lst (a_cons (e_var 1) (a_cons (e_var 2) (a_cons (e_var 2) a_nil)))) (e_call (G_l_e_take) (hr.mono (by decide)) hgd (by rfl) T.g_l_e_take T.F_l_e_take.kp T.b_l_e_take (a_cons (e_var 0) (a_cons e_int a_nil)))) (e_call (G_l_e_take) (hr.mono (by decide)) hgd (by rfl) T.g_l_e_take T.F_l_e_take.kp T.b_l_e_take (a_cons (e_var 0) (a_cons e_int a_nil)))) a_nil))) sc_l_e_rows.nd)))
  (b_one (s_expr (e_bm PySem.F.plainAttrs_list PySem.F.slot_list_append PySem.F.type_list_append m_append (e_var 10) (a_cons (e_tup (a_cons (e_var 12) (a_cons (e_var 13) a_nil))) a_nil))))))))
  (b_one (s_ret (e_frz (e_var 10)))))))))))))))
theorem ok_l_e_rules : FnG P w K mg base 4 T.f_l_e_rules T.d_l_e_rules ["_law_pen"] sp_l_e_rules := by
  have G_l_e_rows := ok_l_e_rows (P := P) (w := w) (base := base) T
  have G_l_e_mixed := ok_l_e_mixed (P := P) (w := w) (base := base) T
  refine fn_g T.F_l_e_rules sc_l_e_rules len_l_e_rules (g := W_l_e_rules) (fun cdv A outer s H hr hgd => ?_) w_l_e_rules
  have hu := hr.units
  exact (b_cons (s_set 1 (e_sl (e_call (G_l_e_mixed) (hr.mono (by decide)) hgd (by rfl) T.g_l_e_mixed T.F_l_e_mixed.kp T.b_l_e_mixed (a_cons (e_var 0) (a_cons (e_lst (a_cons e_str (a_cons e_str (a_cons e_str (a_cons e_str (a_cons e_str (a_cons e_str (a_cons e_str (a_cons e_str a_nil))))))))) a_nil))) p_none (p_some e_int)) sc_l_e_rules.nd)
  (b_cons (s_set 2 (e_sl (e_call (G_l_e_mixed) (hr.mono (by decide)) hgd (by rfl) T.g_l_e_mixed T.F_l_e_mixed.kp T.b_l_e_mixed (a_cons (e_var 0) (a_cons (e_lst (a_cons e_str (a_cons e_str (a_cons e_str (a_cons e_str (a_cons e_str (a_cons e_str (a_cons e_str (a_cons e_str (a_cons e_str a_nil)))))))))) a_nil))) p_none (p_some e_int)) sc_l_e_rules.nd)
  (b_cons (s_set 3 (e_mlst a_nil) sc_l_e_rules.nd)
  (b_cons (s_for PassesOwn.never rfl (i_seq (e_call (G_l_e_mixed) (hr.mono (by decide)) hgd (by rfl) T.g_l_e_mixed T.F_l_e_mixed.kp T.b_l_e_mixed (a_cons (e_var 0) (a_cons (e_call (G_l_e_rows) (hr.mono (by decide)) hgd (by rfl) T.g_l_e_rows T.F_l_e_rows.kp T.b_l_e_rows (a_cons (e_var 0) (a_cons (e_var 1) (a_cons (e_var 2) a_nil)))) a_nil)))) (g_name [4] 4 sc_l_e_rules.nd)
  (b_one (s_if (t_w (t_and (t_cmp (o_notIn hu) (e_var 4) (e_var 3) (by rfl)) (t_and1 (t_cmp o_lt (e_callB c_len (by rfl) T.n_len (by decide +kernel) (a_cons (e_var 3) a_nil)) e_int (nomark _))))) (b_one (s_expr (e_bm PySem.F.plainAttrs_list PySem.F.slot_list_append PySem.F.type_list_append m_append (e_var 3) (a_cons (e_var 4) a_nil)))) b_nil)))
  (b_one (s_ret (e_tup (a_cons (e_ix (e_var 1) e_int) (a_cons (e_callTy c_tuple (by rfl) T.n_tuple (by decide +kernel) (a_cons (e_var 3) a_nil)) a_nil)))))))))
theorem ok_l_e_forbids : FnG P w K mg base 3 T.f_l_e_forbids T.d_l_e_forbids ["_law_pen", "_law_rules"] sp_l_e_forbids := by
  have G_l_e_take := ok_l_e_take (P := P) (w := w) (base := base) T
  refine fn_g T.F_l_e_forbids sc_l_e_forbids len_l_e_forbids (g := W_l_e_forbids) (fun cdv A outer s H hr hgd => ?_) w_l_e_forbids
  have hu := hr.units
  exact (b_cons (s_set 2 (e_mlst a_nil) sc_l_e_forbids.nd)
  (b_cons (s_for PassesOwn.never rfl (i_enum (by rfl) T.n_enumerate (a_cons (e_ix (e_var 1) e_int) a_nil)) (g_tup rfl (gs_cons (g_name [3, 4] 3 sc_l_e_forbids.nd) (gs_cons (g_name [3, 4] 4 sc_l_e_forbids.nd) (gs_nil [3, 4]))))
  (b_one (s_for PassesOwn.never rfl (i_enum (by rfl) T.n_enumerate (a_cons (e_ix (e_var 4) e_int) a_nil)) (g_tup rfl (gs_cons (g_name [5, 6] 5 sc_l_e_forbids.nd) (gs_cons (g_name [5, 6] 6 sc_l_e_forbids.nd) (gs_nil [5, 6]))))
  (b_one (s_expr (e_bm PySem.F.plainAttrs_list PySem.F.slot_list_extend PySem.F.type_list_extend m_extend (e_var 2) (a_cons (e_lc [("_law_other", 9), ("_law_one", 10)] rfl sc_l_e_forbids.nd (i_enum (by rfl) T.n_enumerate (a_cons (e_ix (e_var 1) e_int) a_nil)) (blkOk_by (own := [("_law_other", 9), ("_law_one", 10)]) (N := N_l_e_forbids) (sc := defScope s_l_e_forbids) (by decide +kernel)) (fun _ _ _ _ _ => (g_tup rfl (gs_cons (g_name [9, 10] 9 sc_l_e_forbids.nd) (gs_cons (g_name [9, 10] 10 sc_l_e_forbids.nd) (gs_nil [9, 10]))))) (fun _ _ _ _ _ => (ts_one (t_cmp (o_eq hu) (e_ix (e_var 10) e_int) (e_var 6) (nomark _)))) (fun _ _ _ _ _ => (e_tup (a_cons (e_var 3) (a_cons (e_var 5) (a_cons (e_var 9) a_nil)))))) a_nil)))))))
  (b_cons (s_set 7 (e_tup a_nil) sc_l_e_forbids.nd)
  (b_cons (s_for PassesOwn.never rfl (i_rng1 (by rfl) T.n_range (a_cons (e_ix (e_lst (a_cons e_int (a_cons e_int (a_cons e_int (a_cons e_int (a_cons e_int (a_cons e_int a_nil))))))) (e_call (G_l_e_take) (hr.mono (by decide)) hgd (by rfl) T.g_l_e_take T.F_l_e_take.kp T.b_l_e_take (a_cons (e_var 0) (a_cons e_int a_nil)))) a_nil)) (g_name [8] 8 sc_l_e_forbids.nd)
  (b_one (s_if (t_cmp (o_neR hu) (e_var 2) (e_lst a_nil) (nomark _)) (b_one (s_set 7 (e_op o_add (e_var 7) (e_tup (a_cons (e_ix (e_var 2) (e_call (G_l_e_take) (hr.mono (by decide)) hgd (by rfl) T.g_l_e_take T.F_l_e_take.kp T.b_l_e_take (a_cons (e_var 0) (a_cons (e_callB c_len (by rfl) T.n_len (by decide +kernel) (a_cons (e_var 2) a_nil)) a_nil)))) a_nil))) sc_l_e_forbids.nd)) b_nil)))
  (b_one (s_ret (e_var 7)))))))
theorem ok_l_e_whole : FnG P w K mg base 1 T.f_l_e_whole T.d_l_e_whole ["_law_thing"] sp_l_e_whole := by
  refine fn_g T.F_l_e_whole sc_l_e_whole len_l_e_whole (g := W_l_e_whole) (fun cdv A outer s H hr hgd => ?_) w_l_e_whole
  have hu := hr.units
  exact (b_one (s_ret (e_and (e_callB c_isi (by rfl) T.n_isinstance (by decide +kernel) (a_cons (e_var 0) (a_cons (e_gTy (by rfl) T.n_int (by decide +kernel)) a_nil))) (e_one (e_not (e_callB c_isi (by rfl) T.n_isinstance (by decide +kernel) (a_cons (e_var 0) (a_cons (e_gTy (by rfl) T.n_bool (by decide +kernel)) a_nil))))))))
theorem ok_l_e_due : FnG P w K mg base 2 T.f_l_e_due T.d_l_e_due ["_law_rules", "_law_thing"] sp_l_e_due := by
  have G_l_e_whole := ok_l_e_whole (P := P) (w := w) (base := base) T
  refine fn_g T.F_l_e_due sc_l_e_due len_l_e_due (g := W_l_e_due) (fun cdv A outer s H hr hgd => ?_) w_l_e_due
  have hu := hr.units
  exact (b_cons (s_if (t_w (t_or (t_not (t_val (e_callB c_isi (by rfl) T.n_isinstance (by decide +kernel) (a_cons (e_var 1) (a_cons (e_gTy (by rfl) T.n_tuple (by decide +kernel)) a_nil))))) (t_or1 (t_cmp o_gt (e_callB c_len (by rfl) T.n_len (by decide +kernel) (a_cons (e_var 1) a_nil)) e_int (nomark _))))) (b_one (s_ret e_bl)) b_nil)
  (b_cons (s_set 2 (e_ix (e_var 0) e_int) sc_l_e_due.nd)
  (b_cons (s_for PassesOwn.never rfl (i_seq (e_var 1)) (g_name [3] 3 sc_l_e_due.nd)
  (b_cons (s_if (t_w (t_or (t_not (t_val (e_callB c_isi (by rfl) T.n_isinstance (by decide +kernel) (a_cons (e_var 3) (a_cons (e_gTy (by rfl) T.n_tuple (by decide +kernel)) a_nil))))) (t_or (t_cmp (o_ne hu) (e_callB c_len (by rfl) T.n_len (by decide +kernel) (a_cons (e_var 3) a_nil)) e_int (nomark _)) (t_or1 (t_not (t_val (e_callB (c_all rfl) (by rfl) T.n_all (by decide +kernel) (a_cons (e_lc [("_law_number", 4)] rfl sc_l_e_due.nd (i_seq (e_var 3)) (blkOk_by (own := [("_law_number", 4)]) (N := N_l_e_due) (sc := defScope s_l_e_due) (by decide +kernel)) (fun _ _ _ _ _ => (g_name [4] 4 sc_l_e_due.nd)) (fun _ _ _ _ _ => ts_nil) (fun _ _ _ _ _ => (e_call (G_l_e_whole) (hr.mono (by decide)) hgd (by rfl) T.g_l_e_whole T.F_l_e_whole.kp T.b_l_e_whole (a_cons (e_var 4) a_nil)))) a_nil)))))))) (b_one (s_ret e_bl)) b_nil)
  (b_cons (s_if (t_w (t_or (t_not (t_chain o_le o_lt e_int (e_ix (e_var 3) e_int) (e_callB c_len (by rfl) T.n_len (by decide +kernel) (a_cons (e_var 2) a_nil)))) (t_or1 (t_not (t_chain o_le o_lt e_int (e_ix (e_var 3) e_int) (e_callB c_len (by rfl) T.n_len (by decide +kernel) (a_cons (e_var 2) a_nil))))))) (b_one (s_ret e_bl)) b_nil)
  (b_one (s_if (t_w (t_or (t_not (t_chain o_le o_lt e_int (e_ix (e_var 3) e_int) (e_callB c_len (by rfl) T.n_len (by decide +kernel) (a_cons (e_ix (e_ix (e_var 2) (e_ix (e_var 3) e_int)) e_int) a_nil)))) (t_or1 (t_cmp (o_ne hu) (e_ix (e_ix (e_ix (e_var 2) (e_ix (e_var 3) e_int)) e_int) (e_ix (e_var 3) e_int)) (e_ix (e_ix (e_var 2) (e_ix (e_var 3) e_int)) e_int) (nomark _))))) (b_one (s_ret e_bl)) b_nil)))))
  (b_one (s_ret e_bl)))))
theorem ok_l_e_bent : FnG P w K mg base 3 T.f_l_e_bent T.d_l_e_bent ["_law_pen", "_law_rules", "_law_bars"] sp_l_e_bent := by
  have G_l_e_take := ok_l_e_take (P := P) (w := w) (base := base) T
  refine fn_g T.F_l_e_bent sc_l_e_bent len_l_e_bent (g := W_l_e_bent) (fun cdv A outer s H hr hgd => ?_) w_l_e_bent
  have hu := hr.units
  exact (b_cons (s_set 3 (e_call (G_l_e_take) (hr.mono (by decide)) hgd (by rfl) T.g_l_e_take T.F_l_e_take.kp T.b_l_e_take (a_cons (e_var 0) (a_cons (e_callB c_len (by rfl) T.n_len (by decide +kernel) (a_cons (e_var 2) a_nil)) a_nil))) sc_l_e_bent.nd)
  (b_cons (s_set 4 (e_ix (e_var 2) (e_var 3)) sc_l_e_bent.nd)
  (b_cons (s_set 5 (e_call (G_l_e_take) (hr.mono (by decide)) hgd (by rfl) T.g_l_e_take T.F_l_e_take.kp T.b_l_e_take (a_cons (e_var 0) (a_cons e_int a_nil))) sc_l_e_bent.nd)
  (b_cons (s_set 6 (e_callB c_len (by rfl) T.n_len (by decide +kernel) (a_cons (e_ix (e_var 1) e_int) a_nil)) sc_l_e_bent.nd)
  (b_cons (s_set 7 (e_lst (a_cons (e_op o_add (e_ix (e_var 4) (e_var 5)) e_int) (a_cons (e_op o_sub (e_ix (e_var 4) (e_var 5)) e_int) (a_cons (e_un u_neg e_int) (a_cons (e_var 6) (a_cons e_bl (a_cons e_bl (a_cons e_non (a_cons (e_callTy c_strI (by rfl) T.n_str (by decide +kernel) (a_cons (e_ix (e_var 4) (e_var 5)) a_nil)) (a_cons (e_tup (a_cons (e_ix (e_var 4) (e_var 5)) a_nil)) (a_cons (e_lst (a_cons (e_ix (e_var 4) (e_var 5)) a_nil)) a_nil))))))))))) sc_l_e_bent.nd)
  (b_cons (s_set 7 (e_op o_add (e_var 7) (e_lst (a_cons (e_op o_pow e_int e_int) (a_cons (e_call (G_l_e_take) (hr.mono (by decide)) hgd (by rfl) T.g_l_e_take T.F_l_e_take.kp T.b_l_e_take (a_cons (e_var 0) (a_cons (e_var 6) a_nil))) (a_cons (e_cmp (o_eq hu) (e_ix (e_var 4) (e_var 5)) e_int (nomark _)) (a_cons e_int (a_cons e_int a_nil))))))) sc_l_e_bent.nd)
  (b_cons (s_set 8 (e_op o_add (e_op o_add (e_sl (e_var 4) p_none (p_some (e_var 5))) (e_tup (a_cons (e_ix (e_var 7) (e_call (G_l_e_take) (hr.mono (by decide)) hgd (by rfl) T.g_l_e_take T.F_l_e_take.kp T.b_l_e_take (a_cons (e_var 0) (a_cons e_int a_nil)))) a_nil))) (e_sl (e_var 4) (p_some (e_op o_add (e_var 5) e_int)) p_none)) sc_l_e_bent.nd)
  (b_cons (s_set 9 (e_lst (a_cons (e_var 8) (a_cons (e_var 8) (a_cons (e_var 8) (a_cons (e_sl (e_var 4) p_none (p_some e_int)) (a_cons (e_op o_add (e_var 4) (e_tup (a_cons e_int a_nil))) (a_cons (e_callTy c_list (by rfl) T.n_list (by decide +kernel) (a_cons (e_var 4) a_nil)) (a_cons e_non (a_cons e_int (a_cons e_str (a_cons (e_tup a_nil) (a_cons (e_tup (a_cons (e_var 4) a_nil)) (a_cons (e_rev (e_var 4)) a_nil))))))))))))) sc_l_e_bent.nd)
  (b_one (s_ret (e_op o_add (e_op o_add (e_sl (e_var 2) p_none (p_some (e_var 3))) (e_tup (a_cons (e_ix (e_var 9) (e_call (G_l_e_take) (hr.mono (by decide)) hgd (by rfl) T.g_l_e_take T.F_l_e_take.kp T.b_l_e_take (a_cons (e_var 0) (a_cons e_int a_nil)))) a_nil))) (e_sl (e_var 2) (p_some (e_op o_add (e_var 3) e_int)) p_none))))))))))))
theorem ok_law : FnG P w K mg base 5 T.f_law T.d_law ["_law_script"] sp_law := by
  have G_are_forbids := ok_are_forbids (P := P) (w := w) (base := base) T
  have G_l_e_due := ok_l_e_due (P := P) (w := w) (base := base) T
  have G_l_e_bent := ok_l_e_bent (P := P) (w := w) (base := base) T
  have G_l_e_forbids := ok_l_e_forbids (P := P) (w := w) (base := base) T
  have G_l_e_rules := ok_l_e_rules (P := P) (w := w) (base := base) T
  have G_l_e_pen := ok_l_e_pen (P := P) (w := w) (base := base) T
  refine fn_g T.F_law sc_law len_law (g := W_law) (fun cdv A outer s H hr hgd => ?_) w_law
  have hu := hr.units
  exact (b_cons (s_set 1 (e_call (G_l_e_pen) (hr.mono (by decide)) hgd (by rfl) T.g_l_e_pen T.F_l_e_pen.kp T.b_l_e_pen (a_cons (e_var 0) a_nil)) sc_law.nd)
  (b_cons (s_for PassesOwn.never rfl (i_rng1 (by rfl) T.n_range (a_cons e_int a_nil)) (g_name [2] 2 sc_law.nd)
  (b_cons (s_set 3 (e_call (G_l_e_rules) (hr.mono (by decide)) hgd (by rfl) T.g_l_e_rules T.F_l_e_rules.kp T.b_l_e_rules (a_cons (e_var 1) a_nil)) sc_law.nd)
  (b_cons (s_set 4 (e_call (G_l_e_forbids) (hr.mono (by decide)) hgd (by rfl) T.g_l_e_forbids T.F_l_e_forbids.kp T.b_l_e_forbids (a_cons (e_var 1) (a_cons (e_var 3) a_nil))) sc_law.nd)
  (b_cons (s_set 5 (e_lst (a_cons (e_var 4) (a_cons (e_rev (e_var 4)) (a_cons (e_op o_add (e_var 4) (e_sl (e_var 4) p_none (p_some e_int))) (a_cons (e_callTy c_list (by rfl) T.n_list (by decide +kernel) (a_cons (e_var 4) a_nil)) (a_cons e_non (a_cons e_int (a_cons e_str (a_cons (e_tup a_nil) (a_cons (e_lst a_nil) (a_cons (e_tup (a_cons (e_tup a_nil) a_nil)) (a_cons (e_tup (a_cons e_non a_nil)) (a_cons (e_tup (a_cons (e_tup (a_cons e_int (a_cons e_int a_nil))) a_nil)) (a_cons e_bl a_nil)))))))))))))) sc_law.nd)
  (b_cons (s_set 5 (e_op o_add (e_var 5) (e_lst (a_cons (e_tup (a_cons (e_tup (a_cons e_int (a_cons e_int (a_cons e_int a_nil)))) a_nil)) (a_cons (e_tup (a_cons (e_tup (a_cons e_int (a_cons e_int (a_cons (e_callB c_len (by rfl) T.n_len (by decide +kernel) (a_cons (e_ix (e_var 3) e_int) a_nil)) a_nil)))) a_nil)) (a_cons (e_tup (a_cons (e_tup (a_cons e_bl (a_cons e_int (a_cons e_int a_nil)))) a_nil)) (a_cons (e_tup (a_cons (e_ix (e_var 3) e_int) a_nil)) a_nil)))))) sc_law.nd)
  (b_cons (s_if (t_cmp (o_ne hu) (e_var 4) (e_tup a_nil) (nomark _)) (b_cons (s_set 5 (e_op o_add (e_var 5) (e_lc [("_law_k", 8)] rfl sc_law.nd (i_rng1 (by rfl) T.n_range (a_cons e_int a_nil)) (blkOk_by (own := [("_law_k", 8)]) (N := N_law) (sc := defScope s_law) (by decide +kernel)) (fun _ _ _ _ _ => (g_name [8] 8 sc_law.nd)) (fun _ _ _ _ _ => ts_nil) (fun _ _ _ _ _ => (e_call (G_l_e_bent) (hr.mono (by decide)) hgd (by rfl) T.g_l_e_bent T.F_l_e_bent.kp T.b_l_e_bent (a_cons (e_var 1) (a_cons (e_var 3) (a_cons (e_var 4) a_nil))))))) sc_law.nd)
  (b_one (s_set 5 (e_op o_add (e_var 5) (e_lst (a_cons (e_op o_mul (e_sl (e_var 4) p_none (p_some e_int)) e_int) (a_cons (e_op o_mul (e_sl (e_var 4) p_none (p_some e_int)) e_int) a_nil)))) sc_law.nd))) b_nil)
  (b_one (s_for PassesOwn.never rfl (i_seq (e_var 5)) (g_name [6] 6 sc_law.nd)
  (b_cons (s_set 7 (e_callB (c_repr hgd hu) (by rfl) T.n_repr (by decide +kernel) (a_cons (e_var 6) a_nil)) sc_law.nd)
  (b_one (s_if (t_w (t_or (t_cmp (o_ne hu) (e_callB (c_repr hgd hu) (by rfl) T.n_repr (by decide +kernel) (a_cons (e_call (G_are_forbids) (hr.mono (by decide)) hgd (by rfl) T.g_are_forbids T.F_are_forbids.kp T.b_are_forbids (a_cons (e_var 3) (a_cons (e_var 6) a_nil))) a_nil)) (e_callB (c_repr hgd hu) (by rfl) T.n_repr (by decide +kernel) (a_cons (e_call (G_l_e_due) (hr.mono (by decide)) hgd (by rfl) T.g_l_e_due T.F_l_e_due.kp T.b_l_e_due (a_cons (e_var 3) (a_cons (e_var 6) a_nil))) a_nil)) (nomark _)) (t_or1 (t_cmp (o_ne hu) (e_callB (c_repr hgd hu) (by rfl) T.n_repr (by decide +kernel) (a_cons (e_var 6) a_nil)) (e_var 7) (nomark _))))) (b_one (s_ret e_bl)) b_nil)))))))))))
  (b_one (s_ret e_bl))))
end
theorem all_mk {P : Program} {w : World} {K : PySem.W.Frag} {h : Heap} {mg : Str → Option Value} {fa : Addr} (X : K.In h) (G : h.Ns mainGlobals mg) (hfa : mg "law" = some (.ref fa))
    {f1 : Addr} {od1 an1 : Option Addr} {sl1 : Array (Option Value)} {oc1 kV1 dc1 pm1 cd1 ct1 : Value}
    (a1 : PySem.W.nsIn K mainGlobals "is_whole" = some (some (.ref f1))) (l1 : K.lookup f1 = some ⟨oc1, od1, .func (PySem.W.fnOf "is_whole" "is_whole" (defArgs s_is_whole) (defBody s_is_whole) (defScope s_is_whole) .none kV1 dc1 pm1 an1 cd1 ct1), sl1⟩) (c1 : PySem.W.codeIn K cd1 "is_whole" = true) (k1 : PySem.W.keepIn K (.ref f1) = true)
    {f2 : Addr} {od2 an2 : Option Addr} {sl2 : Array (Option Value)} {oc2 kV2 dc2 pm2 cd2 ct2 : Value}
    (a2 : PySem.W.nsIn K mainGlobals "is_forbid" = some (some (.ref f2))) (l2 : K.lookup f2 = some ⟨oc2, od2, .func (PySem.W.fnOf "is_forbid" "is_forbid" (defArgs s_is_forbid) (defBody s_is_forbid) (defScope s_is_forbid) .none kV2 dc2 pm2 an2 cd2 ct2), sl2⟩) (c2 : PySem.W.codeIn K cd2 "is_forbid" = true) (k2 : PySem.W.keepIn K (.ref f2) = true)
    {f3 : Addr} {od3 an3 : Option Addr} {sl3 : Array (Option Value)} {oc3 kV3 dc3 pm3 cd3 ct3 : Value}
    (a3 : PySem.W.nsIn K mainGlobals "are_forbids" = some (some (.ref f3))) (l3 : K.lookup f3 = some ⟨oc3, od3, .func (PySem.W.fnOf "are_forbids" "are_forbids" (defArgs s_are_forbids) (defBody s_are_forbids) (defScope s_are_forbids) .none kV3 dc3 pm3 an3 cd3 ct3), sl3⟩) (c3 : PySem.W.codeIn K cd3 "are_forbids" = true) (k3 : PySem.W.keepIn K (.ref f3) = true)
    {f4 : Addr} {od4 an4 : Option Addr} {sl4 : Array (Option Value)} {oc4 kV4 dc4 pm4 cd4 ct4 : Value}
    (a4 : PySem.W.nsIn K mainGlobals "_law_e_pen" = some (some (.ref f4))) (l4 : K.lookup f4 = some ⟨oc4, od4, .func (PySem.W.fnOf "_law_e_pen" "_law_e_pen" (defArgs s_l_e_pen) (defBody s_l_e_pen) (defScope s_l_e_pen) .none kV4 dc4 pm4 an4 cd4 ct4), sl4⟩) (c4 : PySem.W.codeIn K cd4 "_law_e_pen" = true) (k4 : PySem.W.keepIn K (.ref f4) = true)
    {f5 : Addr} {od5 an5 : Option Addr} {sl5 : Array (Option Value)} {oc5 kV5 dc5 pm5 cd5 ct5 : Value}
    (a5 : PySem.W.nsIn K mainGlobals "_law_e_fresh" = some (some (.ref f5))) (l5 : K.lookup f5 = some ⟨oc5, od5, .func (PySem.W.fnOf "_law_e_fresh" "_law_e_fresh" (defArgs s_l_e_fresh) (defBody s_l_e_fresh) (defScope s_l_e_fresh) .none kV5 dc5 pm5 an5 cd5 ct5), sl5⟩) (c5 : PySem.W.codeIn K cd5 "_law_e_fresh" = true) (k5 : PySem.W.keepIn K (.ref f5) = true)
    {f6 : Addr} {od6 an6 : Option Addr} {sl6 : Array (Option Value)} {oc6 kV6 dc6 pm6 cd6 ct6 : Value}
    (a6 : PySem.W.nsIn K mainGlobals "_law_e_take" = some (some (.ref f6))) (l6 : K.lookup f6 = some ⟨oc6, od6, .func (PySem.W.fnOf "_law_e_take" "_law_e_take" (defArgs s_l_e_take) (defBody s_l_e_take) (defScope s_l_e_take) .none kV6 dc6 pm6 an6 cd6 ct6), sl6⟩) (c6 : PySem.W.codeIn K cd6 "_law_e_take" = true) (k6 : PySem.W.keepIn K (.ref f6) = true)
    {f7 : Addr} {od7 an7 : Option Addr} {sl7 : Array (Option Value)} {oc7 kV7 dc7 pm7 cd7 ct7 : Value}
    (a7 : PySem.W.nsIn K mainGlobals "_law_e_mixed" = some (some (.ref f7))) (l7 : K.lookup f7 = some ⟨oc7, od7, .func (PySem.W.fnOf "_law_e_mixed" "_law_e_mixed" (defArgs s_l_e_mixed) (defBody s_l_e_mixed) (defScope s_l_e_mixed) .none kV7 dc7 pm7 an7 cd7 ct7), sl7⟩) (c7 : PySem.W.codeIn K cd7 "_law_e_mixed" = true) (k7 : PySem.W.keepIn K (.ref f7) = true)
    {f8 : Addr} {od8 an8 : Option Addr} {sl8 : Array (Option Value)} {oc8 kV8 dc8 pm8 cd8 ct8 : Value}
    (a8 : PySem.W.nsIn K mainGlobals "_law_e_rows" = some (some (.ref f8))) (l8 : K.lookup f8 = some ⟨oc8, od8, .func (PySem.W.fnOf "_law_e_rows" "_law_e_rows" (defArgs s_l_e_rows) (defBody s_l_e_rows) (defScope s_l_e_rows) .none kV8 dc8 pm8 an8 cd8 ct8), sl8⟩) (c8 : PySem.W.codeIn K cd8 "_law_e_rows" = true) (k8 : PySem.W.keepIn K (.ref f8) = true)
    {f9 : Addr} {od9 an9 : Option Addr} {sl9 : Array (Option Value)} {oc9 kV9 dc9 pm9 cd9 ct9 : Value}
    (a9 : PySem.W.nsIn K mainGlobals "_law_e_rules" = some (some (.ref f9))) (l9 : K.lookup f9 = some ⟨oc9, od9, .func (PySem.W.fnOf "_law_e_rules" "_law_e_rules" (defArgs s_l_e_rules) (defBody s_l_e_rules) (defScope s_l_e_rules) .none kV9 dc9 pm9 an9 cd9 ct9), sl9⟩) (c9 : PySem.W.codeIn K cd9 "_law_e_rules" = true) (k9 : PySem.W.keepIn K (.ref f9) = true)
    {f10 : Addr} {od10 an10 : Option Addr} {sl10 : Array (Option Value)} {oc10 kV10 dc10 pm10 cd10 ct10 : Value}
    (a10 : PySem.W.nsIn K mainGlobals "_law_e_forbids" = some (some (.ref f10))) (l10 : K.lookup f10 = some ⟨oc10, od10, .func (PySem.W.fnOf "_law_e_forbids" "_law_e_forbids" (defArgs s_l_e_forbids) (defBody s_l_e_forbids) (defScope s_l_e_forbids) .none kV10 dc10 pm10 an10 cd10 ct10), sl10⟩) (c10 : PySem.W.codeIn K cd10 "_law_e_forbids" = true) (k10 : PySem.W.keepIn K (.ref f10) = true)
    {f11 : Addr} {od11 an11 : Option Addr} {sl11 : Array (Option Value)} {oc11 kV11 dc11 pm11 cd11 ct11 : Value}
    (a11 : PySem.W.nsIn K mainGlobals "_law_e_whole" = some (some (.ref f11))) (l11 : K.lookup f11 = some ⟨oc11, od11, .func (PySem.W.fnOf "_law_e_whole" "_law_e_whole" (defArgs s_l_e_whole) (defBody s_l_e_whole) (defScope s_l_e_whole) .none kV11 dc11 pm11 an11 cd11 ct11), sl11⟩) (c11 : PySem.W.codeIn K cd11 "_law_e_whole" = true) (k11 : PySem.W.keepIn K (.ref f11) = true)
    {f12 : Addr} {od12 an12 : Option Addr} {sl12 : Array (Option Value)} {oc12 kV12 dc12 pm12 cd12 ct12 : Value}
    (a12 : PySem.W.nsIn K mainGlobals "_law_e_due" = some (some (.ref f12))) (l12 : K.lookup f12 = some ⟨oc12, od12, .func (PySem.W.fnOf "_law_e_due" "_law_e_due" (defArgs s_l_e_due) (defBody s_l_e_due) (defScope s_l_e_due) .none kV12 dc12 pm12 an12 cd12 ct12), sl12⟩) (c12 : PySem.W.codeIn K cd12 "_law_e_due" = true) (k12 : PySem.W.keepIn K (.ref f12) = true)
    {f13 : Addr} {od13 an13 : Option Addr} {sl13 : Array (Option Value)} {oc13 kV13 dc13 pm13 cd13 ct13 : Value}
    (a13 : PySem.W.nsIn K mainGlobals "_law_e_bent" = some (some (.ref f13))) (l13 : K.lookup f13 = some ⟨oc13, od13, .func (PySem.W.fnOf "_law_e_bent" "_law_e_bent" (defArgs s_l_e_bent) (defBody s_l_e_bent) (defScope s_l_e_bent) .none kV13 dc13 pm13 an13 cd13 ct13), sl13⟩) (c13 : PySem.W.codeIn K cd13 "_law_e_bent" = true) (k13 : PySem.W.keepIn K (.ref f13) = true)
    {f14 : Addr} {od14 an14 : Option Addr} {sl14 : Array (Option Value)} {oc14 kV14 dc14 pm14 cd14 ct14 : Value}
    (a14 : PySem.W.nsIn K mainGlobals "law" = some (some (.ref f14))) (l14 : K.lookup f14 = some ⟨oc14, od14, .func (PySem.W.fnOf "law" "law" (defArgs s_law) (defBody s_law) (defScope s_law) .none kV14 dc14 pm14 an14 cd14 ct14), sl14⟩) (c14 : PySem.W.codeIn K cd14 "law" = true) (k14 : PySem.W.keepIn K (.ref f14) = true)
    {tk0 : Tok} (x0 : PySem.W.nsIn K mainGlobals "MOST_FORBIDS" = some (some (.int 512 tk0)))
    (z0 : PySem.W.nsIn K mainGlobals "all" = some none)
    (z1 : PySem.W.nsIn K mainGlobals "bool" = some none)
    (z2 : PySem.W.nsIn K mainGlobals "enumerate" = some none)
    (z3 : PySem.W.nsIn K mainGlobals "int" = some none)
    (z4 : PySem.W.nsIn K mainGlobals "isinstance" = some none)
    (z5 : PySem.W.nsIn K mainGlobals "len" = some none)
    (z6 : PySem.W.nsIn K mainGlobals "list" = some none)
    (z7 : PySem.W.nsIn K mainGlobals "min" = some none)
    (z8 : PySem.W.nsIn K mainGlobals "range" = some none)
    (z9 : PySem.W.nsIn K mainGlobals "repr" = some none)
    (z10 : PySem.W.nsIn K mainGlobals "str" = some none)
    (z11 : PySem.W.nsIn K mainGlobals "tuple" = some none)
    : ∃ fd : FuncData, (∀ (s : Shared) (v : Value), BindsTo s fd ⟨[v], []⟩ [("_law_script", v)]) ∧ ∀ base : Heap, K.In base → base.Ns mainGlobals mg → FnG P w K mg base 5 fa fd ["_law_script"] sp_law := by
  have e := hfa.symm.trans (PySem.W.mg_of X G a14)
  cases e
  have F1 := fun_mk (st := s_is_whole) l1 c1 k1
  have F2 := fun_mk (st := s_is_forbid) l2 c2 k2
  have F3 := fun_mk (st := s_are_forbids) l3 c3 k3
  have F4 := fun_mk (st := s_l_e_pen) l4 c4 k4
  have F5 := fun_mk (st := s_l_e_fresh) l5 c5 k5
  have F6 := fun_mk (st := s_l_e_take) l6 c6 k6
  have F7 := fun_mk (st := s_l_e_mixed) l7 c7 k7
  have F8 := fun_mk (st := s_l_e_rows) l8 c8 k8
  have F9 := fun_mk (st := s_l_e_rules) l9 c9 k9
  have F10 := fun_mk (st := s_l_e_forbids) l10 c10 k10
  have F11 := fun_mk (st := s_l_e_whole) l11 c11 k11
  have F12 := fun_mk (st := s_l_e_due) l12 c12 k12
  have F13 := fun_mk (st := s_l_e_bent) l13 c13 k13
  have F14 := fun_mk (st := s_law) l14 c14 k14
  let T : Txt K mg := {
    f_is_whole := f1, d_is_whole := (PySem.W.fnOf "is_whole" "is_whole" (defArgs s_is_whole) (defBody s_is_whole) (defScope s_is_whole) .none kV1 dc1 pm1 an1 cd1 ct1), F_is_whole := F1, g_is_whole := PySem.W.mg_of X G a1, b_is_whole := F1.binds (ps := ["thing"]) fun _ _ _ _ _ _ us hl => match us, hl with | [_], _ => rfl,
    f_is_forbid := f2, d_is_forbid := (PySem.W.fnOf "is_forbid" "is_forbid" (defArgs s_is_forbid) (defBody s_is_forbid) (defScope s_is_forbid) .none kV2 dc2 pm2 an2 cd2 ct2), F_is_forbid := F2, g_is_forbid := PySem.W.mg_of X G a2, b_is_forbid := F2.binds (ps := ["rules", "thing"]) fun _ _ _ _ _ _ us hl => match us, hl with | [_, _], _ => rfl,
    f_are_forbids := f3, d_are_forbids := (PySem.W.fnOf "are_forbids" "are_forbids" (defArgs s_are_forbids) (defBody s_are_forbids) (defScope s_are_forbids) .none kV3 dc3 pm3 an3 cd3 ct3), F_are_forbids := F3, g_are_forbids := PySem.W.mg_of X G a3, b_are_forbids := F3.binds (ps := ["rules", "thing"]) fun _ _ _ _ _ _ us hl => match us, hl with | [_, _], _ => rfl,
    f_l_e_pen := f4, d_l_e_pen := (PySem.W.fnOf "_law_e_pen" "_law_e_pen" (defArgs s_l_e_pen) (defBody s_l_e_pen) (defScope s_l_e_pen) .none kV4 dc4 pm4 an4 cd4 ct4), F_l_e_pen := F4, g_l_e_pen := PySem.W.mg_of X G a4, b_l_e_pen := F4.binds (ps := ["_law_script"]) fun _ _ _ _ _ _ us hl => match us, hl with | [_], _ => rfl,
    f_l_e_fresh := f5, d_l_e_fresh := (PySem.W.fnOf "_law_e_fresh" "_law_e_fresh" (defArgs s_l_e_fresh) (defBody s_l_e_fresh) (defScope s_l_e_fresh) .none kV5 dc5 pm5 an5 cd5 ct5), F_l_e_fresh := F5, g_l_e_fresh := PySem.W.mg_of X G a5, b_l_e_fresh := F5.binds (ps := ["_law_pen"]) fun _ _ _ _ _ _ us hl => match us, hl with | [_], _ => rfl,
    f_l_e_take := f6, d_l_e_take := (PySem.W.fnOf "_law_e_take" "_law_e_take" (defArgs s_l_e_take) (defBody s_l_e_take) (defScope s_l_e_take) .none kV6 dc6 pm6 an6 cd6 ct6), F_l_e_take := F6, g_l_e_take := PySem.W.mg_of X G a6, b_l_e_take := F6.binds (ps := ["_law_pen", "_law_many"]) fun _ _ _ _ _ _ us hl => match us, hl with | [_, _], _ => rfl,
    f_l_e_mixed := f7, d_l_e_mixed := (PySem.W.fnOf "_law_e_mixed" "_law_e_mixed" (defArgs s_l_e_mixed) (defBody s_l_e_mixed) (defScope s_l_e_mixed) .none kV7 dc7 pm7 an7 cd7 ct7), F_l_e_mixed := F7, g_l_e_mixed := PySem.W.mg_of X G a7, b_l_e_mixed := F7.binds (ps := ["_law_pen", "_law_some"]) fun _ _ _ _ _ _ us hl => match us, hl with | [_, _], _ => rfl,
    f_l_e_rows := f8, d_l_e_rows := (PySem.W.fnOf "_law_e_rows" "_law_e_rows" (defArgs s_l_e_rows) (defBody s_l_e_rows) (defScope s_l_e_rows) .none kV8 dc8 pm8 an8 cd8 ct8), F_l_e_rows := F8, g_l_e_rows := PySem.W.mg_of X G a8, b_l_e_rows := F8.binds (ps := ["_law_pen", "_law_names", "_law_signs"]) fun _ _ _ _ _ _ us hl => match us, hl with | [_, _, _], _ => rfl,
    f_l_e_rules := f9, d_l_e_rules := (PySem.W.fnOf "_law_e_rules" "_law_e_rules" (defArgs s_l_e_rules) (defBody s_l_e_rules) (defScope s_l_e_rules) .none kV9 dc9 pm9 an9 cd9 ct9), F_l_e_rules := F9, g_l_e_rules := PySem.W.mg_of X G a9, b_l_e_rules := F9.binds (ps := ["_law_pen"]) fun _ _ _ _ _ _ us hl => match us, hl with | [_], _ => rfl,
    f_l_e_forbids := f10, d_l_e_forbids := (PySem.W.fnOf "_law_e_forbids" "_law_e_forbids" (defArgs s_l_e_forbids) (defBody s_l_e_forbids) (defScope s_l_e_forbids) .none kV10 dc10 pm10 an10 cd10 ct10), F_l_e_forbids := F10, g_l_e_forbids := PySem.W.mg_of X G a10, b_l_e_forbids := F10.binds (ps := ["_law_pen", "_law_rules"]) fun _ _ _ _ _ _ us hl => match us, hl with | [_, _], _ => rfl,
    f_l_e_whole := f11, d_l_e_whole := (PySem.W.fnOf "_law_e_whole" "_law_e_whole" (defArgs s_l_e_whole) (defBody s_l_e_whole) (defScope s_l_e_whole) .none kV11 dc11 pm11 an11 cd11 ct11), F_l_e_whole := F11, g_l_e_whole := PySem.W.mg_of X G a11, b_l_e_whole := F11.binds (ps := ["_law_thing"]) fun _ _ _ _ _ _ us hl => match us, hl with | [_], _ => rfl,
    f_l_e_due := f12, d_l_e_due := (PySem.W.fnOf "_law_e_due" "_law_e_due" (defArgs s_l_e_due) (defBody s_l_e_due) (defScope s_l_e_due) .none kV12 dc12 pm12 an12 cd12 ct12), F_l_e_due := F12, g_l_e_due := PySem.W.mg_of X G a12, b_l_e_due := F12.binds (ps := ["_law_rules", "_law_thing"]) fun _ _ _ _ _ _ us hl => match us, hl with | [_, _], _ => rfl,
    f_l_e_bent := f13, d_l_e_bent := (PySem.W.fnOf "_law_e_bent" "_law_e_bent" (defArgs s_l_e_bent) (defBody s_l_e_bent) (defScope s_l_e_bent) .none kV13 dc13 pm13 an13 cd13 ct13), F_l_e_bent := F13, g_l_e_bent := PySem.W.mg_of X G a13, b_l_e_bent := F13.binds (ps := ["_law_pen", "_law_rules", "_law_bars"]) fun _ _ _ _ _ _ us hl => match us, hl with | [_, _, _], _ => rfl,
    f_law := fa, d_law := (PySem.W.fnOf "law" "law" (defArgs s_law) (defBody s_law) (defScope s_law) .none kV14 dc14 pm14 an14 cd14 ct14), F_law := F14, g_law := PySem.W.mg_of X G a14, b_law := F14.binds (ps := ["_law_script"]) fun _ _ _ _ _ _ us hl => match us, hl with | [_], _ => rfl,
    t_MOST_FORBIDS := tk0, c_MOST_FORBIDS := PySem.W.mg_of X G x0,
    n_all := PySem.W.mg_none_of X G z0,
    n_bool := PySem.W.mg_none_of X G z1,
    n_enumerate := PySem.W.mg_none_of X G z2,
    n_int := PySem.W.mg_none_of X G z3,
    n_isinstance := PySem.W.mg_none_of X G z4,
    n_len := PySem.W.mg_none_of X G z5,
    n_list := PySem.W.mg_none_of X G z6,
    n_min := PySem.W.mg_none_of X G z7,
    n_range := PySem.W.mg_none_of X G z8,
    n_repr := PySem.W.mg_none_of X G z9,
    n_str := PySem.W.mg_none_of X G z10,
    n_tuple := PySem.W.mg_none_of X G z11 }
  exact ⟨(PySem.W.fnOf "law" "law" (defArgs s_law) (defBody s_law) (defScope s_law) .none kV14 dc14 pm14 an14 cd14 ct14), fun s v => .of_eq rfl, fun base _ _ => ok_law T⟩
end L44
open PySem PyProof.Rows L2 G3
set_option maxHeartbeats 0 in
theorem PySem.Challenge.cw_allreads_k44_forbids_known_holds : PySem.Challenge.rw_allreads_k44_forbids_known.Holds := by
  w_on; o_law; k_head; (case hw => w_witness2)
  k_fill
  refine G3.walk_g (l := PySem.Challenge.rw_allreads_k44_forbids_known) (n := 63) (k := 5) (x := "_law_script") (sp := L44.sp_law) rfl (by decide) rfl ⟨rfl, by decide, by decide⟩ (fun w h Y => PySem.W.kIn_of Y) ?F L44.law_end
  case F =>
    intro w mg fa h KX G hmg
    refine' L44.all_mk KX G hmg ?a1 ?l1 ?c1 ?k1 ?a2 ?l2 ?c2 ?k2 ?a3 ?l3 ?c3 ?k3 ?a4 ?l4 ?c4 ?k4 ?a5 ?l5 ?c5 ?k5 ?a6 ?l6 ?c6 ?k6 ?a7 ?l7 ?c7 ?k7 ?a8 ?l8 ?c8 ?k8 ?a9 ?l9 ?c9 ?k9 ?a10 ?l10 ?c10 ?k10 ?a11 ?l11 ?c11 ?k11 ?a12 ?l12 ?c12 ?k12 ?a13 ?l13 ?c13 ?k13 ?a14 ?l14 ?c14 ?k14 ?x0 ?z0 ?z1 ?z2 ?z3 ?z4 ?z5 ?z6 ?z7 ?z8 ?z9 ?z10 ?z11
    (case a1 => k_is)
    (case l1 => k_is)
    (case c1 => k_is)
    (case k1 => k_is)
    (case a2 => k_is)
    (case l2 => k_is)
    (case c2 => k_is)
    (case k2 => k_is)
    (case a3 => k_is)
    (case l3 => k_is)
    (case c3 => k_is)
    (case k3 => k_is)
    (case a4 => k_is)
    (case l4 => k_is)
    (case c4 => k_is)
    (case k4 => k_is)
    (case a5 => k_is)
    (case l5 => k_is)
    (case c5 => k_is)
    (case k5 => k_is)
    (case a6 => k_is)
    (case l6 => k_is)
    (case c6 => k_is)
    (case k6 => k_is)
    (case a7 => k_is)
    (case l7 => k_is)
    (case c7 => k_is)
    (case k7 => k_is)
    (case a8 => k_is)
    (case l8 => k_is)
    (case c8 => k_is)
    (case k8 => k_is)
    (case a9 => k_is)
    (case l9 => k_is)
    (case c9 => k_is)
    (case k9 => k_is)
    (case a10 => k_is)
    (case l10 => k_is)
    (case c10 => k_is)
    (case k10 => k_is)
    (case a11 => k_is)
    (case l11 => k_is)
    (case c11 => k_is)
    (case k11 => k_is)
    (case a12 => k_is)
    (case l12 => k_is)
    (case c12 => k_is)
    (case k12 => k_is)
    (case a13 => k_is)
    (case l13 => k_is)
    (case c13 => k_is)
    (case k13 => k_is)
    (case a14 => k_is)
    (case l14 => k_is)
    (case c14 => k_is)
    (case k14 => k_is)
    (case x0 => k_is)
    (case z0 => k_is)
    (case z1 => k_is)
    (case z2 => k_is)
    (case z3 => k_is)
    (case z4 => k_is)
    (case z5 => k_is)
    (case z6 => k_is)
    (case z7 => k_is)
    (case z8 => k_is)
    (case z9 => k_is)
    (case z10 => k_is)
    (case z11 => k_is)
